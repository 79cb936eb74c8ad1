-- PRINTED by print.py (a twelfth state) out of the translation. Not trusted: Lean checks it.
import Derived.Test.YtnnnjpkmdjkdjaaA0
import Derived.Test.YtnnnjpkmdjkdjaaA1
import Derived.Test.YtnnnjpkmdjkdjaaA5
import Derived.Test.YtnnnjpkmdjkdjaaA7
import Derived.Test.YtnnnjpkmdjkdjaaA9
import Derived.Test.YtnnnjpkmdjkdjaaA11
import Derived.Test.YtnnnjpkmdjkdjaaA15
import Derived.Test.YtnnnjpkmdjkdjaaA16
import Derived.Test.YtnnnjpkmdjkdjaaA18
import Derived.Test.YtnnnjpkmdjkdjaaA26
namespace Go.Proofs.Ytnnnjpkmdjkdjaa.A
open Go.RowKit Go.Proofs.YtnnnjpkmdjkdjaaW.PrintWords Go.Proofs.YtnnnjpkmdjkdjaaW.PrintLast Go.Proofs.YtnnnjpkmdjkdjaaW.PrintMore
attribute [local go_sem] max2_int min2_int max_two min_two max_three min_three max_four min_four   -- for this text's walks alone
set_option linter.unusedVariables false
set_option linter.unusedSimpArgs false

attribute [local go_sem high] eqA28
mutual
def skiarealaw52_ClosureHeld.j0 : Nat → List (S28) → List (S50) → Bool → Int → Int → Int → Option (Bool)
  | 0, _, _, _, _, _, _ => none
  | k + 1, x0, x1, x23, x391000, x391001, x391002 => if x23 = true then (some true) else (skiarealaw52_ClosureHeld.l0 k x0 x1 0 x391000 x391001 x391002)
def skiarealaw52_ClosureHeld.l0 : Nat → List (S28) → List (S50) → Int → Int → Int → Int → Option (Bool)
  | 0, _, _, _, _, _, _ => none
  | k + 1, x0, x1, x7, x391000, x391001, x391002 => if x7 < (x1.length : Int) then (if 0 ≤ x7 then ((skiarearef52_Place.f k x0 x391000 x391001 x391002).bind fun t395 => (if (rd_T50 x1 x7).f0 = true then ((closure_Open.f x0 ((rd_T50 x1 x7).f1.f0) ((rd_T50 x1 x7).f1.f1) ((rd_T50 x1 x7).f1.f2)).bind fun bt397 => (skiarealaw52_ClosureHeld.j2 k x0 x1 x7 t395 bt397.1 bt397.2 x391000 x391001 x391002 ((rd_T50 x1 x7).f1.f0) ((rd_T50 x1 x7).f1.f1) ((rd_T50 x1 x7).f1.f2) ((rd_T50 x1 x7).f1.f3))) else ((closure_Close.f x0 ((rd_T50 x1 x7).f1.f0) ((rd_T50 x1 x7).f1.f1) ((rd_T50 x1 x7).f1.f2) ((rd_T50 x1 x7).f1.f3)).bind fun bt401 => (skiarealaw52_ClosureHeld.j2 k x0 x1 x7 t395 bt401.1 bt401.2 x391000 x391001 x391002 ((rd_T50 x1 x7).f1.f0) ((rd_T50 x1 x7).f1.f1) ((rd_T50 x1 x7).f1.f2) ((rd_T50 x1 x7).f1.f3))))) else (none)) else (some true)
def skiarealaw52_ClosureHeld.j2 : Nat → List (S28) → List (S50) → Int → Int → List (S28) → Int → Int → Int → Int → Int → Int → Int → Int → Option (Bool)
  | 0, _, _, _, _, _, _, _, _, _, _, _, _, _ => none
  | k + 1, x0, x1, x7, x9, x10, x11, x391000, x391001, x391002, x395000, x395001, x395002, x395003 => if x11 = 0 then ((skiarearef52_Place.f k x10 x391000 x391001 x391002).bind fun t405 => (if x395000 = x391000 then (if x395001 = x391001 then (skiarealaw52_ClosureHeld.j3 k x0 x1 x7 x9 x10 t405 (x395002 == x391002) x391000 x391001 x391002) else (skiarealaw52_ClosureHeld.j3 k x0 x1 x7 x9 x10 t405 false x391000 x391001 x391002)) else (skiarealaw52_ClosureHeld.j3 k x0 x1 x7 x9 x10 t405 false x391000 x391001 x391002))) else (if (x10.length : Int) = 0 then (skiarealaw52_ClosureHeld.l0 k x0 x1 (wrap64 (x7 + 1)) x391000 x391001 x391002) else (none))
def skiarealaw52_ClosureHeld.j3 : Nat → List (S28) → List (S50) → Int → Int → List (S28) → Int → Bool → Int → Int → Int → Option (Bool)
  | 0, _, _, _, _, _, _, _, _, _, _ => none
  | k + 1, x0, x1, x7, x9, x10, x12, x13, x391000, x391001, x391002 => if x13 = true then (if x9 ≥ 0 then (if x12 ≥ 0 then (if 0 ≤ x9 then (if x9 < (x0.length : Int) then (if 0 ≤ x12 then (if x12 < (x10.length : Int) then (if (!(((rd_T28 x0 x9).f0) == ((rd_T28 x10 x12).f0)) || (!(((rd_T28 x0 x9).f1) == ((rd_T28 x10 x12).f1)) || (!(((rd_T28 x0 x9).f2) == ((rd_T28 x10 x12).f2)) || (!(((rd_T28 x0 x9).f3) == ((rd_T28 x10 x12).f3)))))) = true then (none) else (if 0 ≤ x7 then (if x7 < (x1.length : Int) then (if (((rd_T50 x1 x7).f0) != (decide (x12 < 0))) = true then (none) else ((closure_Right.f k x10).bind fun t409 => (if t409 = 0 then ((closure_Of.f k x10 x391000 x391001).bind fun t410 => ((skiarealaw52_has.f k t410 x391002).bind fun t413 => (if (t413 != (decide (x12 ≥ 0))) = true then (none) else (skiarealaw52_ClosureHeld.l0 k x10 x1 (wrap64 (x7 + 1)) x391000 x391001 x391002)))) else (none)))) else (none)) else (none))) else (none)) else (none)) else (none)) else (none)) else (if 0 ≤ x7 then (if x7 < (x1.length : Int) then (if (((rd_T50 x1 x7).f0) != (decide (x12 < 0))) = true then (none) else ((closure_Right.f k x10).bind fun t415 => (if t415 = 0 then ((closure_Of.f k x10 x391000 x391001).bind fun t416 => ((skiarealaw52_has.f k t416 x391002).bind fun t419 => (if (t419 != (decide (x12 ≥ 0))) = true then (none) else (skiarealaw52_ClosureHeld.l0 k x10 x1 (wrap64 (x7 + 1)) x391000 x391001 x391002)))) else (none)))) else (none)) else (none))) else (if 0 ≤ x7 then (if x7 < (x1.length : Int) then (if (((rd_T50 x1 x7).f0) != (decide (x12 < 0))) = true then (none) else ((closure_Right.f k x10).bind fun t421 => (if t421 = 0 then ((closure_Of.f k x10 x391000 x391001).bind fun t422 => ((skiarealaw52_has.f k t422 x391002).bind fun t425 => (if (t425 != (decide (x12 ≥ 0))) = true then (none) else (skiarealaw52_ClosureHeld.l0 k x10 x1 (wrap64 (x7 + 1)) x391000 x391001 x391002)))) else (none)))) else (none)) else (none))) else (if ((decide (x9 < 0)) != (decide (x12 < 0))) = true then (none) else (if x9 ≥ 0 then (if x12 ≥ 0 then (if 0 ≤ x9 then (if x9 < (x0.length : Int) then (if 0 ≤ x12 then (if x12 < (x10.length : Int) then (if (!(((rd_T28 x0 x9).f0) == ((rd_T28 x10 x12).f0)) || (!(((rd_T28 x0 x9).f1) == ((rd_T28 x10 x12).f1)) || (!(((rd_T28 x0 x9).f2) == ((rd_T28 x10 x12).f2)) || (!(((rd_T28 x0 x9).f3) == ((rd_T28 x10 x12).f3)))))) = true then (none) else ((closure_Right.f k x10).bind fun t428 => (if t428 = 0 then ((closure_Of.f k x10 x391000 x391001).bind fun t429 => ((skiarealaw52_has.f k t429 x391002).bind fun t432 => (if (t432 != (decide (x12 ≥ 0))) = true then (none) else (skiarealaw52_ClosureHeld.l0 k x10 x1 (wrap64 (x7 + 1)) x391000 x391001 x391002)))) else (none)))) else (none)) else (none)) else (none)) else (none)) else ((closure_Right.f k x10).bind fun t433 => (if t433 = 0 then ((closure_Of.f k x10 x391000 x391001).bind fun t434 => ((skiarealaw52_has.f k t434 x391002).bind fun t437 => (if (t437 != (decide (x12 ≥ 0))) = true then (none) else (skiarealaw52_ClosureHeld.l0 k x10 x1 (wrap64 (x7 + 1)) x391000 x391001 x391002)))) else (none)))) else ((closure_Right.f k x10).bind fun t438 => (if t438 = 0 then ((closure_Of.f k x10 x391000 x391001).bind fun t439 => ((skiarealaw52_has.f k t439 x391002).bind fun t442 => (if (t442 != (decide (x12 ≥ 0))) = true then (none) else (skiarealaw52_ClosureHeld.l0 k x10 x1 (wrap64 (x7 + 1)) x391000 x391001 x391002)))) else (none)))))
end
def skiarealaw52_ClosureHeld.f (k : Nat) (l0 : List (S28)) (l1 : List (S50)) (a2_0 : Int) (a2_1 : Int) (a2_2 : Int) : Option (Bool) := (skiarealaw52_alive.f k).bind fun t391 => (if t391 = true then ((skiarealaw52_right.f k l0).bind fun t392 => (if t392 = true then (skiarealaw52_ClosureHeld.j0 k l0 l1 (decide ((l1.length : Int) > 80)) a2_0 a2_1 a2_2) else (skiarealaw52_ClosureHeld.j0 k l0 l1 true a2_0 a2_1 a2_2))) else (none))
theorem skiarealaw52_ClosureHeld.mono_l : ∀ k, (∀ y0 y1 y2 y3 y4 y5, LeO (skiarealaw52_ClosureHeld.j0 k y0 y1 y2 y3 y4 y5) (skiarealaw52_ClosureHeld.j0 (k + 1) y0 y1 y2 y3 y4 y5)) ∧ (∀ y0 y1 y2 y3 y4 y5, LeO (skiarealaw52_ClosureHeld.l0 k y0 y1 y2 y3 y4 y5) (skiarealaw52_ClosureHeld.l0 (k + 1) y0 y1 y2 y3 y4 y5)) ∧ (∀ y0 y1 y2 y3 y4 y5 y6 y7 y8 y9 y10 y11 y12, LeO (skiarealaw52_ClosureHeld.j2 k y0 y1 y2 y3 y4 y5 y6 y7 y8 y9 y10 y11 y12) (skiarealaw52_ClosureHeld.j2 (k + 1) y0 y1 y2 y3 y4 y5 y6 y7 y8 y9 y10 y11 y12)) ∧ (∀ y0 y1 y2 y3 y4 y5 y6 y7 y8 y9, LeO (skiarealaw52_ClosureHeld.j3 k y0 y1 y2 y3 y4 y5 y6 y7 y8 y9) (skiarealaw52_ClosureHeld.j3 (k + 1) y0 y1 y2 y3 y4 y5 y6 y7 y8 y9))
  | 0 => ⟨fun _ _ _ _ _ _ r h => by simp [skiarealaw52_ClosureHeld.j0] at h, fun _ _ _ _ _ _ r h => by simp [skiarealaw52_ClosureHeld.l0] at h, fun _ _ _ _ _ _ _ _ _ _ _ _ _ r h => by simp [skiarealaw52_ClosureHeld.j2] at h, fun _ _ _ _ _ _ _ _ _ _ r h => by simp [skiarealaw52_ClosureHeld.j3] at h⟩
  | k + 1 => by
    obtain ⟨ih0, ih1, ih2, ih3⟩ := skiarealaw52_ClosureHeld.mono_l k
    refine ⟨?_, ?_, ?_, ?_⟩
    · intro y0 y1 y2 y3 y4 y5
      unfold skiarealaw52_ClosureHeld.j0
      repeat' first
      | (with_reducible exact ih0 _ _ _ _ _ _)
      | (with_reducible exact ih1 _ _ _ _ _ _)
      | (with_reducible exact ih2 _ _ _ _ _ _ _ _ _ _ _ _ _)
      | (with_reducible exact ih3 _ _ _ _ _ _ _ _ _ _)
      | (with_reducible exact closure_Of.mono _ _ _ _)
      | (with_reducible exact closure_Right.mono _ _)
      | (with_reducible exact skiarealaw52_alive.mono _)
      | (with_reducible exact skiarealaw52_has.mono _ _ _)
      | (with_reducible exact skiarealaw52_right.mono _ _)
      | (with_reducible exact skiarearef52_Place.mono _ _ _ _ _)
      | (with_reducible exact LeO.refl _)
      | (with_reducible exact LeO.none _)
      | (with_reducible refine LeO.ite ?_ ?_)
      | (with_reducible refine LeO.bind ?_ (fun _ => ?_))
      | exact ih0 _ _ _ _ _ _
      | exact ih1 _ _ _ _ _ _
      | exact ih2 _ _ _ _ _ _ _ _ _ _ _ _ _
      | exact ih3 _ _ _ _ _ _ _ _ _ _
      | exact closure_Of.mono _ _ _ _
      | exact closure_Right.mono _ _
      | exact skiarealaw52_alive.mono _
      | exact skiarealaw52_has.mono _ _ _
      | exact skiarealaw52_right.mono _ _
      | exact skiarearef52_Place.mono _ _ _ _ _
      | exact LeO.none _
      | refine LeO.ite ?_ ?_
      | refine LeO.bind ?_ (fun _ => ?_)
    · intro y0 y1 y2 y3 y4 y5
      unfold skiarealaw52_ClosureHeld.l0
      repeat' first
      | (with_reducible exact ih0 _ _ _ _ _ _)
      | (with_reducible exact ih1 _ _ _ _ _ _)
      | (with_reducible exact ih2 _ _ _ _ _ _ _ _ _ _ _ _ _)
      | (with_reducible exact ih3 _ _ _ _ _ _ _ _ _ _)
      | (with_reducible exact closure_Of.mono _ _ _ _)
      | (with_reducible exact closure_Right.mono _ _)
      | (with_reducible exact skiarealaw52_alive.mono _)
      | (with_reducible exact skiarealaw52_has.mono _ _ _)
      | (with_reducible exact skiarealaw52_right.mono _ _)
      | (with_reducible exact skiarearef52_Place.mono _ _ _ _ _)
      | (with_reducible exact LeO.refl _)
      | (with_reducible exact LeO.none _)
      | (with_reducible refine LeO.ite ?_ ?_)
      | (with_reducible refine LeO.bind ?_ (fun _ => ?_))
      | exact ih0 _ _ _ _ _ _
      | exact ih1 _ _ _ _ _ _
      | exact ih2 _ _ _ _ _ _ _ _ _ _ _ _ _
      | exact ih3 _ _ _ _ _ _ _ _ _ _
      | exact closure_Of.mono _ _ _ _
      | exact closure_Right.mono _ _
      | exact skiarealaw52_alive.mono _
      | exact skiarealaw52_has.mono _ _ _
      | exact skiarealaw52_right.mono _ _
      | exact skiarearef52_Place.mono _ _ _ _ _
      | exact LeO.none _
      | refine LeO.ite ?_ ?_
      | refine LeO.bind ?_ (fun _ => ?_)
    · intro y0 y1 y2 y3 y4 y5 y6 y7 y8 y9 y10 y11 y12
      unfold skiarealaw52_ClosureHeld.j2
      repeat' first
      | (with_reducible exact ih0 _ _ _ _ _ _)
      | (with_reducible exact ih1 _ _ _ _ _ _)
      | (with_reducible exact ih2 _ _ _ _ _ _ _ _ _ _ _ _ _)
      | (with_reducible exact ih3 _ _ _ _ _ _ _ _ _ _)
      | (with_reducible exact closure_Of.mono _ _ _ _)
      | (with_reducible exact closure_Right.mono _ _)
      | (with_reducible exact skiarealaw52_alive.mono _)
      | (with_reducible exact skiarealaw52_has.mono _ _ _)
      | (with_reducible exact skiarealaw52_right.mono _ _)
      | (with_reducible exact skiarearef52_Place.mono _ _ _ _ _)
      | (with_reducible exact LeO.refl _)
      | (with_reducible exact LeO.none _)
      | (with_reducible refine LeO.ite ?_ ?_)
      | (with_reducible refine LeO.bind ?_ (fun _ => ?_))
      | exact ih0 _ _ _ _ _ _
      | exact ih1 _ _ _ _ _ _
      | exact ih2 _ _ _ _ _ _ _ _ _ _ _ _ _
      | exact ih3 _ _ _ _ _ _ _ _ _ _
      | exact closure_Of.mono _ _ _ _
      | exact closure_Right.mono _ _
      | exact skiarealaw52_alive.mono _
      | exact skiarealaw52_has.mono _ _ _
      | exact skiarealaw52_right.mono _ _
      | exact skiarearef52_Place.mono _ _ _ _ _
      | exact LeO.none _
      | refine LeO.ite ?_ ?_
      | refine LeO.bind ?_ (fun _ => ?_)
    · intro y0 y1 y2 y3 y4 y5 y6 y7 y8 y9
      unfold skiarealaw52_ClosureHeld.j3
      repeat' first
      | (with_reducible exact ih0 _ _ _ _ _ _)
      | (with_reducible exact ih1 _ _ _ _ _ _)
      | (with_reducible exact ih2 _ _ _ _ _ _ _ _ _ _ _ _ _)
      | (with_reducible exact ih3 _ _ _ _ _ _ _ _ _ _)
      | (with_reducible exact closure_Of.mono _ _ _ _)
      | (with_reducible exact closure_Right.mono _ _)
      | (with_reducible exact skiarealaw52_alive.mono _)
      | (with_reducible exact skiarealaw52_has.mono _ _ _)
      | (with_reducible exact skiarealaw52_right.mono _ _)
      | (with_reducible exact skiarearef52_Place.mono _ _ _ _ _)
      | (with_reducible exact LeO.refl _)
      | (with_reducible exact LeO.none _)
      | (with_reducible refine LeO.ite ?_ ?_)
      | (with_reducible refine LeO.bind ?_ (fun _ => ?_))
      | exact ih0 _ _ _ _ _ _
      | exact ih1 _ _ _ _ _ _
      | exact ih2 _ _ _ _ _ _ _ _ _ _ _ _ _
      | exact ih3 _ _ _ _ _ _ _ _ _ _
      | exact closure_Of.mono _ _ _ _
      | exact closure_Right.mono _ _
      | exact skiarealaw52_alive.mono _
      | exact skiarealaw52_has.mono _ _ _
      | exact skiarealaw52_right.mono _ _
      | exact skiarearef52_Place.mono _ _ _ _ _
      | exact LeO.none _
      | refine LeO.ite ?_ ?_
      | refine LeO.bind ?_ (fun _ => ?_)
theorem skiarealaw52_ClosureHeld.mono : ∀ a0 a1 a2 a3 a4 k, LeO (skiarealaw52_ClosureHeld.f k a0 a1 a2 a3 a4) (skiarealaw52_ClosureHeld.f (k + 1) a0 a1 a2 a3 a4) := by
  intro a0 a1 a2 a3 a4 k
  obtain ⟨ih0, ih1, ih2, ih3⟩ := skiarealaw52_ClosureHeld.mono_l k
  unfold skiarealaw52_ClosureHeld.f
  repeat' first
      | (with_reducible exact ih0 _ _ _ _ _ _)
      | (with_reducible exact ih1 _ _ _ _ _ _)
      | (with_reducible exact ih2 _ _ _ _ _ _ _ _ _ _ _ _ _)
      | (with_reducible exact ih3 _ _ _ _ _ _ _ _ _ _)
      | (with_reducible exact closure_Of.mono _ _ _ _)
      | (with_reducible exact closure_Right.mono _ _)
      | (with_reducible exact skiarealaw52_alive.mono _)
      | (with_reducible exact skiarealaw52_has.mono _ _ _)
      | (with_reducible exact skiarealaw52_right.mono _ _)
      | (with_reducible exact skiarearef52_Place.mono _ _ _ _ _)
      | (with_reducible exact LeO.refl _)
      | (with_reducible exact LeO.none _)
      | (with_reducible refine LeO.ite ?_ ?_)
      | (with_reducible refine LeO.bind ?_ (fun _ => ?_))
      | exact ih0 _ _ _ _ _ _
      | exact ih1 _ _ _ _ _ _
      | exact ih2 _ _ _ _ _ _ _ _ _ _ _ _ _
      | exact ih3 _ _ _ _ _ _ _ _ _ _
      | exact closure_Of.mono _ _ _ _
      | exact closure_Right.mono _ _
      | exact skiarealaw52_alive.mono _
      | exact skiarealaw52_has.mono _ _ _
      | exact skiarealaw52_right.mono _ _
      | exact skiarearef52_Place.mono _ _ _ _ _
      | exact LeO.none _
      | refine LeO.ite ?_ ?_
      | refine LeO.bind ?_ (fun _ => ?_)
def skiarealaw52_ClosureHeld.T20 : Bool × List (List Nat × List Nat) := (true, [([], []), ([0], [0]), ([1], [1]), ([2], [2]), ([3, 2], [2, 3]), ([2], [2]), ([5, 2], [2, 5]), ([4, 6, 2], [2, 4, 6]), ([2, 7], [2, 7]), ([8, 2], [8]), ([9], [9]), ([10, 9], [9, 10]), ([11, 9, 9], [9, 11]), ([12], [12]), ([13, 12], [12, 13]), ([12, 14, 9], [9, 12, 14]), ([15, 12, 9], [9, 15]), ([16], [16]), ([16], [16]), ([17, 18, 16], [16, 17, 18]), ([19, 16], [16, 19]), ([16], [16]), ([16], [16]), ([21, 22, 16], [16, 21, 22]), ([23, 16], [16, 23]), ([20, 24, 16], [16, 20, 24]), ([16, 25, 9], [9, 16, 25]), ([9, 26], [9, 26]), ([27, 16], [27]), ([28], [28]), ([29, 28, 28], [28, 29]), ([30], [30]), ([30], [30]), ([31, 32, 30], [30, 31, 32]), ([33, 30], [30, 33]), ([34, 30], [30, 34]), ([30], [30]), ([36, 30], [30, 36]), ([35, 37, 30], [30, 35, 37]), ([30, 38, 28], [28, 30, 38]), ([28, 39], [28, 39]), ([40, 30], [40]), ([41], [41]), ([42, 41, 41], [41, 42]), ([43, 41], [41, 43]), ([41, 44], [41, 44]), ([45, 43], [45]), ([46], [46]), ([46], [46]), ([48, 46], [46, 48]), ([46], [46]), ([50, 46], [46, 50]), ([47, 49, 51, 46, 46], [46, 47, 49, 51]), ([46], [46]), ([53, 46], [46, 53]), ([52, 54, 52, 46], [46, 52, 54]), ([46], [46]), ([56, 46], [46, 56]), ([55, 57, 46], [46, 55, 57]), ([46, 58], [46, 58])])
def skiarealaw52_ClosureHeld.B20 : List Nat := [0, 1, 3, 7, 15, 7, 39, 127, 255, 511, 1023, 2047, 4095, 8191, 16383, 32767, 65535, 131071, 131071, 524287, 1048575, 131071, 131071, 6422527, 14811135, 33554431, 67108863, 134217727, 268435455, 536870911, 1073741823, 2147483647, 2147483647, 8589934591, 17179869183, 34359738367, 2147483647, 70866960383, 274877906943, 549755813887, 1099511627775, 2199023255551, 4398046511103, 8796093022207, 17592186044415, 35184372088831, 70368744177663, 140737488355327, 140737488355327, 422212465065983, 140737488355327, 1266637395197951, 4503599627370495, 140737488355327, 9147936743096319, 36028797018963967, 140737488355327, 72198331526283263, 288230376151711743, 576460752303423487]
theorem skiarealaw52_ClosureHeld.tab20 : rtab .any (opsOf Try.f6 20) = skiarealaw52_ClosureHeld.T20 := by kernel_rfl
theorem skiarealaw52_ClosureHeld.bits20 : waitsOk skiarealaw52_ClosureHeld.T20.2 skiarealaw52_ClosureHeld.B20 = true := by kernel_rfl
def skiarealaw52_ClosureHeld.b0 : Array Bool := #[true, false, false, false, false, false, false, false, false, false, false, false, false, false, false, false, false, false, false, false, false, false, false, false, false, false, false, false, false, false, false, false, false, false, false, false, false, false, false, false, false, false, false, false, false, false, false, false, false, false, false, false, false, false, false, false, false, false, false, false]
def skiarealaw52_ClosureHeld.b1 : Array Bool := #[true, true, false, false, false, false, false, false, false, false, false, false, false, false, false, false, false, false, false, false, false, false, false, false, false, false, false, false, false, false, false, false, false, false, false, false, false, false, false, false, false, false, false, false, false, false, false, false, false, false, false, false, false, false, false, false, false, false, false, false]
def skiarealaw52_ClosureHeld.b2 : Array Bool := #[true, true, true, false, false, false, false, false, false, false, false, false, false, false, false, false, false, false, false, false, false, false, false, false, false, false, false, false, false, false, false, false, false, false, false, false, false, false, false, false, false, false, false, false, false, false, false, false, false, false, false, false, false, false, false, false, false, false, false, false]
def skiarealaw52_ClosureHeld.b3 : Array Bool := #[true, true, true, true, false, false, false, false, false, false, false, false, false, false, false, false, false, false, false, false, false, false, false, false, false, false, false, false, false, false, false, false, false, false, false, false, false, false, false, false, false, false, false, false, false, false, false, false, false, false, false, false, false, false, false, false, false, false, false, false]
def skiarealaw52_ClosureHeld.b4 : Array Bool := #[true, true, true, true, true, false, false, false, false, false, false, false, false, false, false, false, false, false, false, false, false, false, false, false, false, false, false, false, false, false, false, false, false, false, false, false, false, false, false, false, false, false, false, false, false, false, false, false, false, false, false, false, false, false, false, false, false, false, false, false]
def skiarealaw52_ClosureHeld.b5 : Array Bool := #[true, true, true, true, true, true, false, false, false, false, false, false, false, false, false, false, false, false, false, false, false, false, false, false, false, false, false, false, false, false, false, false, false, false, false, false, false, false, false, false, false, false, false, false, false, false, false, false, false, false, false, false, false, false, false, false, false, false, false, false]
def skiarealaw52_ClosureHeld.b6 : Array Bool := #[true, true, true, true, true, true, true, false, false, false, false, false, false, false, false, false, false, false, false, false, false, false, false, false, false, false, false, false, false, false, false, false, false, false, false, false, false, false, false, false, false, false, false, false, false, false, false, false, false, false, false, false, false, false, false, false, false, false, false, false]
def skiarealaw52_ClosureHeld.b7 : Array Bool := #[true, true, true, true, true, true, true, true, false, false, false, false, false, false, false, false, false, false, false, false, false, false, false, false, false, false, false, false, false, false, false, false, false, false, false, false, false, false, false, false, false, false, false, false, false, false, false, false, false, false, false, false, false, false, false, false, false, false, false, false]
def skiarealaw52_ClosureHeld.b8 : Array Bool := #[true, true, true, true, true, true, true, true, true, false, false, false, false, false, false, false, false, false, false, false, false, false, false, false, false, false, false, false, false, false, false, false, false, false, false, false, false, false, false, false, false, false, false, false, false, false, false, false, false, false, false, false, false, false, false, false, false, false, false, false]
def skiarealaw52_ClosureHeld.b9 : Array Bool := #[true, true, true, true, true, true, true, true, true, true, false, false, false, false, false, false, false, false, false, false, false, false, false, false, false, false, false, false, false, false, false, false, false, false, false, false, false, false, false, false, false, false, false, false, false, false, false, false, false, false, false, false, false, false, false, false, false, false, false, false]
def skiarealaw52_ClosureHeld.b10 : Array Bool := #[true, true, true, true, true, true, true, true, true, true, true, false, false, false, false, false, false, false, false, false, false, false, false, false, false, false, false, false, false, false, false, false, false, false, false, false, false, false, false, false, false, false, false, false, false, false, false, false, false, false, false, false, false, false, false, false, false, false, false, false]
def skiarealaw52_ClosureHeld.b11 : Array Bool := #[true, true, true, true, true, true, true, true, true, true, true, true, false, false, false, false, false, false, false, false, false, false, false, false, false, false, false, false, false, false, false, false, false, false, false, false, false, false, false, false, false, false, false, false, false, false, false, false, false, false, false, false, false, false, false, false, false, false, false, false]
def skiarealaw52_ClosureHeld.b12 : Array Bool := #[true, true, true, true, true, true, true, true, true, true, true, true, true, false, false, false, false, false, false, false, false, false, false, false, false, false, false, false, false, false, false, false, false, false, false, false, false, false, false, false, false, false, false, false, false, false, false, false, false, false, false, false, false, false, false, false, false, false, false, false]
def skiarealaw52_ClosureHeld.b13 : Array Bool := #[true, true, true, true, true, true, true, true, true, true, true, true, true, true, false, false, false, false, false, false, false, false, false, false, false, false, false, false, false, false, false, false, false, false, false, false, false, false, false, false, false, false, false, false, false, false, false, false, false, false, false, false, false, false, false, false, false, false, false, false]
def skiarealaw52_ClosureHeld.b14 : Array Bool := #[true, true, true, true, true, true, true, true, true, true, true, true, true, true, true, false, false, false, false, false, false, false, false, false, false, false, false, false, false, false, false, false, false, false, false, false, false, false, false, false, false, false, false, false, false, false, false, false, false, false, false, false, false, false, false, false, false, false, false, false]
def skiarealaw52_ClosureHeld.b15 : Array Bool := #[true, true, true, true, true, true, true, true, true, true, true, true, true, true, true, true, false, false, false, false, false, false, false, false, false, false, false, false, false, false, false, false, false, false, false, false, false, false, false, false, false, false, false, false, false, false, false, false, false, false, false, false, false, false, false, false, false, false, false, false]
def skiarealaw52_ClosureHeld.b16 : Array Bool := #[true, true, true, true, true, true, true, true, true, true, true, true, true, true, true, true, true, false, false, false, false, false, false, false, false, false, false, false, false, false, false, false, false, false, false, false, false, false, false, false, false, false, false, false, false, false, false, false, false, false, false, false, false, false, false, false, false, false, false, false]
def skiarealaw52_ClosureHeld.b17 : Array Bool := #[true, true, true, true, true, true, true, true, true, true, true, true, true, true, true, true, true, true, false, false, false, false, false, false, false, false, false, false, false, false, false, false, false, false, false, false, false, false, false, false, false, false, false, false, false, false, false, false, false, false, false, false, false, false, false, false, false, false, false, false]
def skiarealaw52_ClosureHeld.b18 : Array Bool := #[true, true, true, true, true, true, true, true, true, true, true, true, true, true, true, true, true, true, true, false, false, false, false, false, false, false, false, false, false, false, false, false, false, false, false, false, false, false, false, false, false, false, false, false, false, false, false, false, false, false, false, false, false, false, false, false, false, false, false, false]
def skiarealaw52_ClosureHeld.b19 : Array Bool := #[true, true, true, true, true, true, true, true, true, true, true, true, true, true, true, true, true, true, true, true, false, false, false, false, false, false, false, false, false, false, false, false, false, false, false, false, false, false, false, false, false, false, false, false, false, false, false, false, false, false, false, false, false, false, false, false, false, false, false, false]
def skiarealaw52_ClosureHeld.b20 : Array Bool := #[true, true, true, true, true, true, true, true, true, true, true, true, true, true, true, true, true, true, true, true, false, true, false, false, false, false, false, false, false, false, false, false, false, false, false, false, false, false, false, false, false, false, false, false, false, false, false, false, false, false, false, false, false, false, false, false, false, false, false, false]
def skiarealaw52_ClosureHeld.b21 : Array Bool := #[true, true, true, true, true, true, true, true, true, true, true, true, true, true, true, true, true, true, true, true, false, true, true, false, false, false, false, false, false, false, false, false, false, false, false, false, false, false, false, false, false, false, false, false, false, false, false, false, false, false, false, false, false, false, false, false, false, false, false, false]
def skiarealaw52_ClosureHeld.b22 : Array Bool := #[true, true, true, true, true, true, true, true, true, true, true, true, true, true, true, true, true, true, true, true, false, true, true, true, false, false, false, false, false, false, false, false, false, false, false, false, false, false, false, false, false, false, false, false, false, false, false, false, false, false, false, false, false, false, false, false, false, false, false, false]
def skiarealaw52_ClosureHeld.b23 : Array Bool := #[true, true, true, true, true, true, true, true, true, true, true, true, true, true, true, true, true, true, true, true, true, true, true, true, false, false, false, false, false, false, false, false, false, false, false, false, false, false, false, false, false, false, false, false, false, false, false, false, false, false, false, false, false, false, false, false, false, false, false, false]
def skiarealaw52_ClosureHeld.b24 : Array Bool := #[true, true, true, true, true, true, true, true, true, true, true, true, true, true, true, true, true, true, true, true, true, true, true, true, true, false, false, false, false, false, false, false, false, false, false, false, false, false, false, false, false, false, false, false, false, false, false, false, false, false, false, false, false, false, false, false, false, false, false, false]
def skiarealaw52_ClosureHeld.b25 : Array Bool := #[true, true, true, true, true, true, true, true, true, true, true, true, true, true, true, true, true, true, true, true, true, true, true, true, true, true, false, false, false, false, false, false, false, false, false, false, false, false, false, false, false, false, false, false, false, false, false, false, false, false, false, false, false, false, false, false, false, false, false, false]
def skiarealaw52_ClosureHeld.b26 : Array Bool := #[true, true, true, true, true, true, true, true, true, true, true, true, true, true, true, true, true, true, true, true, true, true, true, true, true, true, true, false, false, false, false, false, false, false, false, false, false, false, false, false, false, false, false, false, false, false, false, false, false, false, false, false, false, false, false, false, false, false, false, false]
def skiarealaw52_ClosureHeld.b27 : Array Bool := #[true, true, true, true, true, true, true, true, true, true, true, true, true, true, true, true, true, true, true, true, true, true, true, true, true, true, true, true, false, false, false, false, false, false, false, false, false, false, false, false, false, false, false, false, false, false, false, false, false, false, false, false, false, false, false, false, false, false, false, false]
def skiarealaw52_ClosureHeld.b28 : Array Bool := #[true, true, true, true, true, true, true, true, true, true, true, true, true, true, true, true, true, true, true, true, true, true, true, true, true, true, true, true, true, false, false, false, false, false, false, false, false, false, false, false, false, false, false, false, false, false, false, false, false, false, false, false, false, false, false, false, false, false, false, false]
def skiarealaw52_ClosureHeld.b29 : Array Bool := #[true, true, true, true, true, true, true, true, true, true, true, true, true, true, true, true, true, true, true, true, true, true, true, true, true, true, true, true, true, true, false, false, false, false, false, false, false, false, false, false, false, false, false, false, false, false, false, false, false, false, false, false, false, false, false, false, false, false, false, false]
def skiarealaw52_ClosureHeld.b30 : Array Bool := #[true, true, true, true, true, true, true, true, true, true, true, true, true, true, true, true, true, true, true, true, true, true, true, true, true, true, true, true, true, true, true, false, false, false, false, false, false, false, false, false, false, false, false, false, false, false, false, false, false, false, false, false, false, false, false, false, false, false, false, false]
def skiarealaw52_ClosureHeld.b31 : Array Bool := #[true, true, true, true, true, true, true, true, true, true, true, true, true, true, true, true, true, true, true, true, true, true, true, true, true, true, true, true, true, true, true, true, false, false, false, false, false, false, false, false, false, false, false, false, false, false, false, false, false, false, false, false, false, false, false, false, false, false, false, false]
def skiarealaw52_ClosureHeld.b32 : Array Bool := #[true, true, true, true, true, true, true, true, true, true, true, true, true, true, true, true, true, true, true, true, true, true, true, true, true, true, true, true, true, true, true, true, true, false, false, false, false, false, false, false, false, false, false, false, false, false, false, false, false, false, false, false, false, false, false, false, false, false, false, false]
def skiarealaw52_ClosureHeld.b33 : Array Bool := #[true, true, true, true, true, true, true, true, true, true, true, true, true, true, true, true, true, true, true, true, true, true, true, true, true, true, true, true, true, true, true, true, true, true, false, false, false, false, false, false, false, false, false, false, false, false, false, false, false, false, false, false, false, false, false, false, false, false, false, false]
def skiarealaw52_ClosureHeld.b34 : Array Bool := #[true, true, true, true, true, true, true, true, true, true, true, true, true, true, true, true, true, true, true, true, true, true, true, true, true, true, true, true, true, true, true, true, true, true, true, false, false, false, false, false, false, false, false, false, false, false, false, false, false, false, false, false, false, false, false, false, false, false, false, false]
def skiarealaw52_ClosureHeld.b35 : Array Bool := #[true, true, true, true, true, true, true, true, true, true, true, true, true, true, true, true, true, true, true, true, true, true, true, true, true, true, true, true, true, true, true, true, true, true, true, false, true, false, false, false, false, false, false, false, false, false, false, false, false, false, false, false, false, false, false, false, false, false, false, false]
def skiarealaw52_ClosureHeld.b36 : Array Bool := #[true, true, true, true, true, true, true, true, true, true, true, true, true, true, true, true, true, true, true, true, true, true, true, true, true, true, true, true, true, true, true, true, true, true, true, false, true, true, false, false, false, false, false, false, false, false, false, false, false, false, false, false, false, false, false, false, false, false, false, false]
def skiarealaw52_ClosureHeld.b37 : Array Bool := #[true, true, true, true, true, true, true, true, true, true, true, true, true, true, true, true, true, true, true, true, true, true, true, true, true, true, true, true, true, true, true, true, true, true, true, true, true, true, false, false, false, false, false, false, false, false, false, false, false, false, false, false, false, false, false, false, false, false, false, false]
def skiarealaw52_ClosureHeld.b38 : Array Bool := #[true, true, true, true, true, true, true, true, true, true, true, true, true, true, true, true, true, true, true, true, true, true, true, true, true, true, true, true, true, true, true, true, true, true, true, true, true, true, true, false, false, false, false, false, false, false, false, false, false, false, false, false, false, false, false, false, false, false, false, false]
def skiarealaw52_ClosureHeld.b39 : Array Bool := #[true, true, true, true, true, true, true, true, true, true, true, true, true, true, true, true, true, true, true, true, true, true, true, true, true, true, true, true, true, true, true, true, true, true, true, true, true, true, true, true, false, false, false, false, false, false, false, false, false, false, false, false, false, false, false, false, false, false, false, false]
def skiarealaw52_ClosureHeld.b40 : Array Bool := #[true, true, true, true, true, true, true, true, true, true, true, true, true, true, true, true, true, true, true, true, true, true, true, true, true, true, true, true, true, true, true, true, true, true, true, true, true, true, true, true, true, false, false, false, false, false, false, false, false, false, false, false, false, false, false, false, false, false, false, false]
def skiarealaw52_ClosureHeld.b41 : Array Bool := #[true, true, true, true, true, true, true, true, true, true, true, true, true, true, true, true, true, true, true, true, true, true, true, true, true, true, true, true, true, true, true, true, true, true, true, true, true, true, true, true, true, true, false, false, false, false, false, false, false, false, false, false, false, false, false, false, false, false, false, false]
def skiarealaw52_ClosureHeld.b42 : Array Bool := #[true, true, true, true, true, true, true, true, true, true, true, true, true, true, true, true, true, true, true, true, true, true, true, true, true, true, true, true, true, true, true, true, true, true, true, true, true, true, true, true, true, true, true, false, false, false, false, false, false, false, false, false, false, false, false, false, false, false, false, false]
def skiarealaw52_ClosureHeld.b43 : Array Bool := #[true, true, true, true, true, true, true, true, true, true, true, true, true, true, true, true, true, true, true, true, true, true, true, true, true, true, true, true, true, true, true, true, true, true, true, true, true, true, true, true, true, true, true, true, false, false, false, false, false, false, false, false, false, false, false, false, false, false, false, false]
def skiarealaw52_ClosureHeld.b44 : Array Bool := #[true, true, true, true, true, true, true, true, true, true, true, true, true, true, true, true, true, true, true, true, true, true, true, true, true, true, true, true, true, true, true, true, true, true, true, true, true, true, true, true, true, true, true, true, true, false, false, false, false, false, false, false, false, false, false, false, false, false, false, false]
def skiarealaw52_ClosureHeld.b45 : Array Bool := #[true, true, true, true, true, true, true, true, true, true, true, true, true, true, true, true, true, true, true, true, true, true, true, true, true, true, true, true, true, true, true, true, true, true, true, true, true, true, true, true, true, true, true, true, true, true, false, false, false, false, false, false, false, false, false, false, false, false, false, false]
def skiarealaw52_ClosureHeld.b46 : Array Bool := #[true, true, true, true, true, true, true, true, true, true, true, true, true, true, true, true, true, true, true, true, true, true, true, true, true, true, true, true, true, true, true, true, true, true, true, true, true, true, true, true, true, true, true, true, true, true, true, false, false, false, false, false, false, false, false, false, false, false, false, false]
def skiarealaw52_ClosureHeld.b47 : Array Bool := #[true, true, true, true, true, true, true, true, true, true, true, true, true, true, true, true, true, true, true, true, true, true, true, true, true, true, true, true, true, true, true, true, true, true, true, true, true, true, true, true, true, true, true, true, true, true, true, true, false, false, false, false, false, false, false, false, false, false, false, false]
def skiarealaw52_ClosureHeld.b48 : Array Bool := #[true, true, true, true, true, true, true, true, true, true, true, true, true, true, true, true, true, true, true, true, true, true, true, true, true, true, true, true, true, true, true, true, true, true, true, true, true, true, true, true, true, true, true, true, true, true, true, true, true, false, false, false, false, false, false, false, false, false, false, false]
def skiarealaw52_ClosureHeld.b49 : Array Bool := #[true, true, true, true, true, true, true, true, true, true, true, true, true, true, true, true, true, true, true, true, true, true, true, true, true, true, true, true, true, true, true, true, true, true, true, true, true, true, true, true, true, true, true, true, true, true, true, true, true, false, true, false, false, false, false, false, false, false, false, false]
def skiarealaw52_ClosureHeld.b50 : Array Bool := #[true, true, true, true, true, true, true, true, true, true, true, true, true, true, true, true, true, true, true, true, true, true, true, true, true, true, true, true, true, true, true, true, true, true, true, true, true, true, true, true, true, true, true, true, true, true, true, true, true, false, true, false, false, true, false, false, false, false, false, false]
def skiarealaw52_ClosureHeld.b51 : Array Bool := #[true, true, true, true, true, true, true, true, true, true, true, true, true, true, true, true, true, true, true, true, true, true, true, true, true, true, true, true, true, true, true, true, true, true, true, true, true, true, true, true, true, true, true, true, true, true, true, true, true, false, true, false, false, true, false, false, true, false, false, false]
def skiarealaw52_ClosureHeld.b52 : Array Bool := #[true, true, true, true, true, true, true, true, true, true, true, true, true, true, true, true, true, true, true, true, true, true, true, true, true, true, true, true, true, true, true, true, true, true, true, true, true, true, true, true, true, true, true, true, true, true, true, true, true, false, true, false, false, true, false, false, true, true, false, false]
def skiarealaw52_ClosureHeld.b53 : Array Bool := #[true, true, true, true, true, true, true, true, true, true, true, true, true, true, true, true, true, true, true, true, true, true, true, true, true, true, true, true, true, true, true, true, true, true, true, true, true, true, true, true, true, true, true, true, true, true, true, true, true, true, true, false, false, true, false, false, true, true, false, false]
def skiarealaw52_ClosureHeld.b54 : Array Bool := #[true, true, true, true, true, true, true, true, true, true, true, true, true, true, true, true, true, true, true, true, true, true, true, true, true, true, true, true, true, true, true, true, true, true, true, true, true, true, true, true, true, true, true, true, true, true, true, true, true, true, true, true, false, true, false, false, true, true, false, false]
def skiarealaw52_ClosureHeld.b55 : Array Bool := #[true, true, true, true, true, true, true, true, true, true, true, true, true, true, true, true, true, true, true, true, true, true, true, true, true, true, true, true, true, true, true, true, true, true, true, true, true, true, true, true, true, true, true, true, true, true, true, true, true, true, true, true, false, true, true, false, true, true, false, false]
def skiarealaw52_ClosureHeld.b56 : Array Bool := #[true, true, true, true, true, true, true, true, true, true, true, true, true, true, true, true, true, true, true, true, true, true, true, true, true, true, true, true, true, true, true, true, true, true, true, true, true, true, true, true, true, true, true, true, true, true, true, true, true, true, true, true, true, true, true, false, true, true, false, false]
def skiarealaw52_ClosureHeld.b57 : Array Bool := #[true, true, true, true, true, true, true, true, true, true, true, true, true, true, true, true, true, true, true, true, true, true, true, true, true, true, true, true, true, true, true, true, true, true, true, true, true, true, true, true, true, true, true, true, true, true, true, true, true, true, true, true, true, true, true, true, true, true, false, false]
def skiarealaw52_ClosureHeld.b58 : Array Bool := #[true, true, true, true, true, true, true, true, true, true, true, true, true, true, true, true, true, true, true, true, true, true, true, true, true, true, true, true, true, true, true, true, true, true, true, true, true, true, true, true, true, true, true, true, true, true, true, true, true, true, true, true, true, true, true, true, true, true, true, false]
def skiarealaw52_ClosureHeld.b59 : Array Bool := #[true, true, true, true, true, true, true, true, true, true, true, true, true, true, true, true, true, true, true, true, true, true, true, true, true, true, true, true, true, true, true, true, true, true, true, true, true, true, true, true, true, true, true, true, true, true, true, true, true, true, true, true, true, true, true, true, true, true, true, true]
def skiarealaw52_ClosureHeld.b60 : Array Bool := #[true, true, true, true, true, true, true, true, true, true, true, true, true, true, true, true, true, true, true, true, true, false, false, false, false, false, false, false, false, false, false, false, false, false, false, false, false, false, false, false, false, false, false, false, false, false, false, false, false, false, false, false, false, false, false, false, false, false, false, false]
def skiarealaw52_ClosureHeld.b61 : Array Bool := #[true, true, true, true, true, true, true, true, true, true, true, true, true, true, true, true, true, true, true, true, true, true, false, false, false, false, false, false, false, false, false, false, false, false, false, false, false, false, false, false, false, false, false, false, false, false, false, false, false, false, false, false, false, false, false, false, false, false, false, false]
def skiarealaw52_ClosureHeld.b62 : Array Bool := #[true, true, true, true, true, true, true, true, true, true, true, true, true, true, true, true, true, true, true, true, true, true, true, false, false, false, false, false, false, false, false, false, false, false, false, false, false, false, false, false, false, false, false, false, false, false, false, false, false, false, false, false, false, false, false, false, false, false, false, false]
def skiarealaw52_ClosureHeld.b63 : Array Bool := #[true, true, true, true, true, true, true, true, true, true, true, true, true, true, true, true, true, true, true, true, true, true, true, true, true, true, true, true, true, true, true, true, true, true, true, true, false, false, false, false, false, false, false, false, false, false, false, false, false, false, false, false, false, false, false, false, false, false, false, false]
def skiarealaw52_ClosureHeld.b64 : Array Bool := #[true, true, true, true, true, true, true, true, true, true, true, true, true, true, true, true, true, true, true, true, true, true, true, true, true, true, true, true, true, true, true, true, true, true, true, true, true, false, false, false, false, false, false, false, false, false, false, false, false, false, false, false, false, false, false, false, false, false, false, false]
end Go.Proofs.Ytnnnjpkmdjkdjaa.A
