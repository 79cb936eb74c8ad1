-- PRINTED by print.py (a twelfth state) out of the translation. Not trusted: Lean checks it.
import Derived.Test.YtnnnjpkmdjkdjaaA0
import Derived.Test.YtnnnjpkmdjkdjaaA7
import Derived.Test.YtnnnjpkmdjkdjaaA11
import Derived.Test.YtnnnjpkmdjkdjaaA14
import Derived.Test.YtnnnjpkmdjkdjaaA15
import Derived.Test.YtnnnjpkmdjkdjaaA18
import Derived.Test.YtnnnjpkmdjkdjaaA23
namespace Go.Proofs.Ytnnnjpkmdjkdjaa.A
open Go.RowKit Go.Proofs.YtnnnjpkmdjkdjaaW.PrintWords Go.Proofs.YtnnnjpkmdjkdjaaW.PrintLast Go.Proofs.YtnnnjpkmdjkdjaaW.PrintMore
attribute [local go_sem] max2_int min2_int max_two min_two max_three min_three max_four min_four   -- for this text's walks alone
set_option linter.unusedVariables false
set_option linter.unusedSimpArgs false

mutual
def skiarealaw52_ClosureTargets.j0 : Nat → List (S28) → Bool → List (S59) → List (S76) → List (S56) → List Int → Int → Int → Int → Int → Option (Bool)
 | 0, _, _, _, _, _, _, _, _, _, _ => none
 | k + 1, x1, x24, x408000, x408001, x408002, x408003, x409000, x409001, x409002, x409003 => if x24 = true then (some true) else ((closure_Close.f x1 x409000 x409001 x409002 x409003).bind fun bt412 => (skiarealaw52_ClosureTargets.l0 k x1 bt412.1 bt412.2 0 x408000 x408001 x408002 x408003 x409000 x409001 x409002 x409003))
def skiarealaw52_ClosureTargets.l0 : Nat → List (S28) → List (S28) → Int → Int → List (S59) → List (S76) → List (S56) → List Int → Int → Int → Int → Int → Option (Bool)
 | 0, _, _, _, _, _, _, _, _, _, _, _, _ => none
 | k + 1, x1, x7, x8, x9, x408000, x408001, x408002, x408003, x409000, x409001, x409002, x409003 => if x9 < (x408002.length : Int) then (if 0 ≤ x9 then ((closure_Run.f x408000 x408001 x408002 x408003 x1 ((rd_T56 x408002 x9).f0)).bind fun t418 => ((closure_Of.f k x1 1 ((rd_T56 x408002 x9).f0)).bind fun t419 => ((closure_Of.f k x1 3 ((rd_T56 x408002 x9).f5)).bind fun t422 => (if (t418 != (decide ((wrap64 ((t419.length : Int) + (t422.length : Int))) > 0))) = true then (none) else (if x409000 = 1 then (if x409001 = ((rd_T56 x408002 x9).f0) then (skiarealaw52_ClosureTargets.j2 k x1 x7 x8 x9 t418 true x408000 x408001 x408002 x408003 x409000 x409001 x409002 x409003 ((rd_T56 x408002 x9).f0) ((rd_T56 x408002 x9).f1) ((rd_T56 x408002 x9).f2) ((rd_T56 x408002 x9).f3) ((rd_T56 x408002 x9).f4) ((rd_T56 x408002 x9).f5) ((rd_T56 x408002 x9).f6)) else (if x409000 = 3 then (skiarealaw52_ClosureTargets.j2 k x1 x7 x8 x9 t418 (x409001 == ((rd_T56 x408002 x9).f5)) x408000 x408001 x408002 x408003 x409000 x409001 x409002 x409003 ((rd_T56 x408002 x9).f0) ((rd_T56 x408002 x9).f1) ((rd_T56 x408002 x9).f2) ((rd_T56 x408002 x9).f3) ((rd_T56 x408002 x9).f4) ((rd_T56 x408002 x9).f5) ((rd_T56 x408002 x9).f6)) else (skiarealaw52_ClosureTargets.j2 k x1 x7 x8 x9 t418 false x408000 x408001 x408002 x408003 x409000 x409001 x409002 x409003 ((rd_T56 x408002 x9).f0) ((rd_T56 x408002 x9).f1) ((rd_T56 x408002 x9).f2) ((rd_T56 x408002 x9).f3) ((rd_T56 x408002 x9).f4) ((rd_T56 x408002 x9).f5) ((rd_T56 x408002 x9).f6)))) else (if x409000 = 3 then (skiarealaw52_ClosureTargets.j2 k x1 x7 x8 x9 t418 (x409001 == ((rd_T56 x408002 x9).f5)) x408000 x408001 x408002 x408003 x409000 x409001 x409002 x409003 ((rd_T56 x408002 x9).f0) ((rd_T56 x408002 x9).f1) ((rd_T56 x408002 x9).f2) ((rd_T56 x408002 x9).f3) ((rd_T56 x408002 x9).f4) ((rd_T56 x408002 x9).f5) ((rd_T56 x408002 x9).f6)) else (skiarealaw52_ClosureTargets.j2 k x1 x7 x8 x9 t418 false x408000 x408001 x408002 x408003 x409000 x409001 x409002 x409003 ((rd_T56 x408002 x9).f0) ((rd_T56 x408002 x9).f1) ((rd_T56 x408002 x9).f2) ((rd_T56 x408002 x9).f3) ((rd_T56 x408002 x9).f4) ((rd_T56 x408002 x9).f5) ((rd_T56 x408002 x9).f6)))))))) else (none)) else ((closure_Of.f k x1 x409000 x409001).bind fun t426 => (skiarealaw52_ClosureTargets.l1 k x1 t426 0 x409000 x409001 x409002 x409003))
def skiarealaw52_ClosureTargets.j2 : Nat → List (S28) → List (S28) → Int → Int → Bool → Bool → List (S59) → List (S76) → List (S56) → List Int → Int → Int → Int → Int → Int → Int → Int → Int → Int → Int → Int → Option (Bool)
 | 0, _, _, _, _, _, _, _, _, _, _, _, _, _, _, _, _, _, _, _, _, _ => none
 | k + 1, x1, x7, x8, x9, x11, x12, x408000, x408001, x408002, x408003, x409000, x409001, x409002, x409003, x418000, x418001, x418002, x418003, x418004, x418005, x418006 => if x8 = 0 then ((closure_Run.f x408000 x408001 x408002 x408003 x7 x418000).bind fun t425 => (if x11 = true then (if (t425 != true) = true then (none) else (skiarealaw52_ClosureTargets.l0 k x1 x7 x8 (wrap64 (x9 + 1)) x408000 x408001 x408002 x408003 x409000 x409001 x409002 x409003)) else (if (t425 != x12) = true then (none) else (skiarealaw52_ClosureTargets.l0 k x1 x7 x8 (wrap64 (x9 + 1)) x408000 x408001 x408002 x408003 x409000 x409001 x409002 x409003)))) else (skiarealaw52_ClosureTargets.l0 k x1 x7 x8 (wrap64 (x9 + 1)) x408000 x408001 x408002 x408003 x409000 x409001 x409002 x409003)
def skiarealaw52_ClosureTargets.l1 : Nat → List (S28) → List Int → Int → Int → Int → Int → Int → Option (Bool)
 | 0, _, _, _, _, _, _, _ => none
 | k + 1, x1, x13, x14, x409000, x409001, x409002, x409003 => if x14 < (x13.length : Int) then (if 0 ≤ x14 then (if (rd x13 x14) < 1 then (none) else (if (rd x13 x14) > 6 then (none) else (if x14 > 0 then (if 0 ≤ (wrap64 (x14 - 1)) then (if (wrap64 (x14 - 1)) < (x13.length : Int) then (if (rd x13 x14) ≤ (rd x13 (wrap64 (x14 - 1))) then (none) else (skiarealaw52_ClosureTargets.l1 k x1 x13 (wrap64 (x14 + 1)) x409000 x409001 x409002 x409003)) else (none)) else (none)) else (skiarealaw52_ClosureTargets.l1 k x1 x13 (wrap64 (x14 + 1)) x409000 x409001 x409002 x409003)))) else (none)) else ((closure_Lift.f x1 x409001).bind fun t433 => ((closure_Of.f k x1 2 x409001).bind fun t434 => (if (t433 == (decide ((t434.length : Int) > 0))) = true then ((closure_Of.f k ([] : List (S28)) x409000 x409001).bind fun t437 => (some ((t437.length : Int) == 0))) else (none))))
end
def skiarealaw52_ClosureTargets.f (k : Nat) (l0_0 : List (S59)) (l0_1 : List (S76)) (l0_2 : List (S56)) (l0_3 : List Int) (l1 : List (S28)) (a2_0 : Int) (a2_1 : Int) (a2_2 : Int) (a2_3 : Int) : Option (Bool) := (skiarealaw52_alive.f k).bind fun t409 => (if t409 = true then ((skiarealaw52_right.f k l1).bind fun t410 => (if t410 = true then ((skiarearef10_Right.f k l0_0 l0_1 l0_2 l0_3).bind fun t411 => (skiarealaw52_ClosureTargets.j0 k l1 (t411 != 0) l0_0 l0_1 l0_2 l0_3 a2_0 a2_1 a2_2 a2_3)) else (skiarealaw52_ClosureTargets.j0 k l1 true l0_0 l0_1 l0_2 l0_3 a2_0 a2_1 a2_2 a2_3))) else (none))
theorem skiarealaw52_ClosureTargets.mono_l : ∀ k, (∀ y0 y1 y2 y3 y4 y5 y6 y7 y8 y9, LeO (skiarealaw52_ClosureTargets.j0 k y0 y1 y2 y3 y4 y5 y6 y7 y8 y9) (skiarealaw52_ClosureTargets.j0 (k + 1) y0 y1 y2 y3 y4 y5 y6 y7 y8 y9)) ∧ (∀ y0 y1 y2 y3 y4 y5 y6 y7 y8 y9 y10 y11, LeO (skiarealaw52_ClosureTargets.l0 k y0 y1 y2 y3 y4 y5 y6 y7 y8 y9 y10 y11) (skiarealaw52_ClosureTargets.l0 (k + 1) y0 y1 y2 y3 y4 y5 y6 y7 y8 y9 y10 y11)) ∧ (∀ y0 y1 y2 y3 y4 y5 y6 y7 y8 y9 y10 y11 y12 y13 y14 y15 y16 y17 y18 y19 y20, LeO (skiarealaw52_ClosureTargets.j2 k y0 y1 y2 y3 y4 y5 y6 y7 y8 y9 y10 y11 y12 y13 y14 y15 y16 y17 y18 y19 y20) (skiarealaw52_ClosureTargets.j2 (k + 1) y0 y1 y2 y3 y4 y5 y6 y7 y8 y9 y10 y11 y12 y13 y14 y15 y16 y17 y18 y19 y20)) ∧ (∀ y0 y1 y2 y3 y4 y5 y6, LeO (skiarealaw52_ClosureTargets.l1 k y0 y1 y2 y3 y4 y5 y6) (skiarealaw52_ClosureTargets.l1 (k + 1) y0 y1 y2 y3 y4 y5 y6))
 | 0 => ⟨fun _ _ _ _ _ _ _ _ _ _ r h => by simp [skiarealaw52_ClosureTargets.j0] at h, fun _ _ _ _ _ _ _ _ _ _ _ _ r h => by simp [skiarealaw52_ClosureTargets.l0] at h, fun _ _ _ _ _ _ _ _ _ _ _ _ _ _ _ _ _ _ _ _ _ r h => by simp [skiarealaw52_ClosureTargets.j2] at h, fun _ _ _ _ _ _ _ r h => by simp [skiarealaw52_ClosureTargets.l1] at h⟩
 | k + 1 => by
  obtain ⟨ih0, ih1, ih2, ih3⟩ := skiarealaw52_ClosureTargets.mono_l k; refine ⟨?_, ?_, ?_, ?_⟩
  ·
   intro y0 y1 y2 y3 y4 y5 y6 y7 y8 y9; unfold skiarealaw52_ClosureTargets.j0
   repeat' first
   | (with_reducible exact ih0 _ _ _ _ _ _ _ _ _ _)
   | (with_reducible exact ih1 _ _ _ _ _ _ _ _ _ _ _ _)
   | (with_reducible exact ih2 _ _ _ _ _ _ _ _ _ _ _ _ _ _ _ _ _ _ _ _ _)
   | (with_reducible exact ih3 _ _ _ _ _ _ _)
   | (with_reducible exact closure_Of.mono _ _ _ _)
   | (with_reducible exact skiarealaw52_alive.mono _)
   | (with_reducible exact skiarealaw52_right.mono _ _)
   | (with_reducible exact skiarearef10_Right.mono _ _ _ _ _)
   | (with_reducible exact LeO.refl _)
   | (with_reducible exact LeO.none _)
   | (with_reducible refine LeO.ite ?_ ?_)
   | (with_reducible refine LeO.bind ?_ (fun _ => ?_))
   | exact ih0 _ _ _ _ _ _ _ _ _ _
   | exact ih1 _ _ _ _ _ _ _ _ _ _ _ _
   | exact ih2 _ _ _ _ _ _ _ _ _ _ _ _ _ _ _ _ _ _ _ _ _
   | exact ih3 _ _ _ _ _ _ _
   | exact closure_Of.mono _ _ _ _
   | exact skiarealaw52_alive.mono _
   | exact skiarealaw52_right.mono _ _
   | exact skiarearef10_Right.mono _ _ _ _ _
   | exact LeO.none _
   | refine LeO.ite ?_ ?_
   | refine LeO.bind ?_ (fun _ => ?_)
  ·
   intro y0 y1 y2 y3 y4 y5 y6 y7 y8 y9 y10 y11; unfold skiarealaw52_ClosureTargets.l0
   repeat' first
   | (with_reducible exact ih0 _ _ _ _ _ _ _ _ _ _)
   | (with_reducible exact ih1 _ _ _ _ _ _ _ _ _ _ _ _)
   | (with_reducible exact ih2 _ _ _ _ _ _ _ _ _ _ _ _ _ _ _ _ _ _ _ _ _)
   | (with_reducible exact ih3 _ _ _ _ _ _ _)
   | (with_reducible exact closure_Of.mono _ _ _ _)
   | (with_reducible exact skiarealaw52_alive.mono _)
   | (with_reducible exact skiarealaw52_right.mono _ _)
   | (with_reducible exact skiarearef10_Right.mono _ _ _ _ _)
   | (with_reducible exact LeO.refl _)
   | (with_reducible exact LeO.none _)
   | (with_reducible refine LeO.ite ?_ ?_)
   | (with_reducible refine LeO.bind ?_ (fun _ => ?_))
   | exact ih0 _ _ _ _ _ _ _ _ _ _
   | exact ih1 _ _ _ _ _ _ _ _ _ _ _ _
   | exact ih2 _ _ _ _ _ _ _ _ _ _ _ _ _ _ _ _ _ _ _ _ _
   | exact ih3 _ _ _ _ _ _ _
   | exact closure_Of.mono _ _ _ _
   | exact skiarealaw52_alive.mono _
   | exact skiarealaw52_right.mono _ _
   | exact skiarearef10_Right.mono _ _ _ _ _
   | exact LeO.none _
   | refine LeO.ite ?_ ?_
   | refine LeO.bind ?_ (fun _ => ?_)
  ·
   intro y0 y1 y2 y3 y4 y5 y6 y7 y8 y9 y10 y11 y12 y13 y14 y15 y16 y17 y18 y19 y20; unfold skiarealaw52_ClosureTargets.j2
   repeat' first
   | (with_reducible exact ih0 _ _ _ _ _ _ _ _ _ _)
   | (with_reducible exact ih1 _ _ _ _ _ _ _ _ _ _ _ _)
   | (with_reducible exact ih2 _ _ _ _ _ _ _ _ _ _ _ _ _ _ _ _ _ _ _ _ _)
   | (with_reducible exact ih3 _ _ _ _ _ _ _)
   | (with_reducible exact closure_Of.mono _ _ _ _)
   | (with_reducible exact skiarealaw52_alive.mono _)
   | (with_reducible exact skiarealaw52_right.mono _ _)
   | (with_reducible exact skiarearef10_Right.mono _ _ _ _ _)
   | (with_reducible exact LeO.refl _)
   | (with_reducible exact LeO.none _)
   | (with_reducible refine LeO.ite ?_ ?_)
   | (with_reducible refine LeO.bind ?_ (fun _ => ?_))
   | exact ih0 _ _ _ _ _ _ _ _ _ _
   | exact ih1 _ _ _ _ _ _ _ _ _ _ _ _
   | exact ih2 _ _ _ _ _ _ _ _ _ _ _ _ _ _ _ _ _ _ _ _ _
   | exact ih3 _ _ _ _ _ _ _
   | exact closure_Of.mono _ _ _ _
   | exact skiarealaw52_alive.mono _
   | exact skiarealaw52_right.mono _ _
   | exact skiarearef10_Right.mono _ _ _ _ _
   | exact LeO.none _
   | refine LeO.ite ?_ ?_
   | refine LeO.bind ?_ (fun _ => ?_)
  ·
   intro y0 y1 y2 y3 y4 y5 y6; unfold skiarealaw52_ClosureTargets.l1
   repeat' first
   | (with_reducible exact ih0 _ _ _ _ _ _ _ _ _ _)
   | (with_reducible exact ih1 _ _ _ _ _ _ _ _ _ _ _ _)
   | (with_reducible exact ih2 _ _ _ _ _ _ _ _ _ _ _ _ _ _ _ _ _ _ _ _ _)
   | (with_reducible exact ih3 _ _ _ _ _ _ _)
   | (with_reducible exact closure_Of.mono _ _ _ _)
   | (with_reducible exact skiarealaw52_alive.mono _)
   | (with_reducible exact skiarealaw52_right.mono _ _)
   | (with_reducible exact skiarearef10_Right.mono _ _ _ _ _)
   | (with_reducible exact LeO.refl _)
   | (with_reducible exact LeO.none _)
   | (with_reducible refine LeO.ite ?_ ?_)
   | (with_reducible refine LeO.bind ?_ (fun _ => ?_))
   | exact ih0 _ _ _ _ _ _ _ _ _ _
   | exact ih1 _ _ _ _ _ _ _ _ _ _ _ _
   | exact ih2 _ _ _ _ _ _ _ _ _ _ _ _ _ _ _ _ _ _ _ _ _
   | exact ih3 _ _ _ _ _ _ _
   | exact closure_Of.mono _ _ _ _
   | exact skiarealaw52_alive.mono _
   | exact skiarealaw52_right.mono _ _
   | exact skiarearef10_Right.mono _ _ _ _ _
   | exact LeO.none _
   | refine LeO.ite ?_ ?_
   | refine LeO.bind ?_ (fun _ => ?_)
theorem skiarealaw52_ClosureTargets.mono : ∀ a0 a1 a2 a3 a4 a5 a6 a7 a8 k, LeO (skiarealaw52_ClosureTargets.f k a0 a1 a2 a3 a4 a5 a6 a7 a8) (skiarealaw52_ClosureTargets.f (k + 1) a0 a1 a2 a3 a4 a5 a6 a7 a8) := by
 intro a0 a1 a2 a3 a4 a5 a6 a7 a8 k; obtain ⟨ih0, ih1, ih2, ih3⟩ := skiarealaw52_ClosureTargets.mono_l k; unfold skiarealaw52_ClosureTargets.f
 repeat' first
   | (with_reducible exact ih0 _ _ _ _ _ _ _ _ _ _)
   | (with_reducible exact ih1 _ _ _ _ _ _ _ _ _ _ _ _)
   | (with_reducible exact ih2 _ _ _ _ _ _ _ _ _ _ _ _ _ _ _ _ _ _ _ _ _)
   | (with_reducible exact ih3 _ _ _ _ _ _ _)
   | (with_reducible exact closure_Of.mono _ _ _ _)
   | (with_reducible exact skiarealaw52_alive.mono _)
   | (with_reducible exact skiarealaw52_right.mono _ _)
   | (with_reducible exact skiarearef10_Right.mono _ _ _ _ _)
   | (with_reducible exact LeO.refl _)
   | (with_reducible exact LeO.none _)
   | (with_reducible refine LeO.ite ?_ ?_)
   | (with_reducible refine LeO.bind ?_ (fun _ => ?_))
   | exact ih0 _ _ _ _ _ _ _ _ _ _
   | exact ih1 _ _ _ _ _ _ _ _ _ _ _ _
   | exact ih2 _ _ _ _ _ _ _ _ _ _ _ _ _ _ _ _ _ _ _ _ _
   | exact ih3 _ _ _ _ _ _ _
   | exact closure_Of.mono _ _ _ _
   | exact skiarealaw52_alive.mono _
   | exact skiarealaw52_right.mono _ _
   | exact skiarearef10_Right.mono _ _ _ _ _
   | exact LeO.none _
   | refine LeO.ite ?_ ?_
   | refine LeO.bind ?_ (fun _ => ?_)
def skiarealaw52_ClosureTargets.T11 : Bool × List (List Nat × List Nat) := (true, [([], []), ([], []), ([], []), ([2], [2]), ([1, 3], [1, 3]), ([4], [4]), ([], []), ([], []), ([7], [7]), ([6, 8, 4], [6, 8]), ([9], [9]), ([5, 10], [5, 10]), ([11], [11]), ([0, 12], [0, 12])])
def skiarealaw52_ClosureTargets.B11 : List Nat := [0, 0, 0, 4, 14, 30, 0, 0, 128, 478, 990, 2046, 4094, 8191]
theorem skiarealaw52_ClosureTargets.tab11 : rtab .any (opsOf Try.f8 11) = skiarealaw52_ClosureTargets.T11 := by kernel_rfl
theorem skiarealaw52_ClosureTargets.bits11 : waitsOk skiarealaw52_ClosureTargets.T11.2 skiarealaw52_ClosureTargets.B11 = true := by kernel_rfl
def skiarealaw52_ClosureTargets.T20 : Bool × List (List Nat × List Nat) := (true, [([], []), ([], []), ([0, 1], [0, 1]), ([2], [2]), ([3], [3]), ([4], [4]), ([5], [5]), ([5], [5]), ([6, 7, 5], [5, 6, 7]), ([8, 5], [5, 8]), ([9, 5], [5, 9]), ([5, 10], [5, 10]), ([11, 5], [11]), ([12], [12]), ([13, 12], [12, 13]), ([14, 12, 12], [12, 14]), ([15], [15]), ([15], [15]), ([16, 17, 15], [15, 16, 17]), ([18, 15], [15, 18]), ([15], [15]), ([15], [15]), ([21, 15], [15, 21]), ([20, 22, 15], [15, 20, 22]), ([23, 15], [15, 23]), ([19, 24, 15], [15, 19, 24]), ([15, 25, 12], [12, 15, 25]), ([12, 26], [12, 26])])
def skiarealaw52_ClosureTargets.B20 : List Nat := [0, 0, 3, 7, 15, 31, 63, 63, 255, 511, 1023, 2047, 4095, 8191, 16383, 32767, 65535, 65535, 262143, 524287, 65535, 65535, 2162687, 7405567, 15794175, 33554431, 67108863, 134217727]
theorem skiarealaw52_ClosureTargets.tab20 : rtab .any (opsOf Try.f8 20) = skiarealaw52_ClosureTargets.T20 := by kernel_rfl
theorem skiarealaw52_ClosureTargets.bits20 : waitsOk skiarealaw52_ClosureTargets.T20.2 skiarealaw52_ClosureTargets.B20 = true := by kernel_rfl
def skiarealaw52_ClosureTargets.T22 : Bool × List (List Nat × List Nat) := (true, [([], []), ([], []), ([1], [1]), ([0, 2], [0, 2]), ([], []), ([], []), ([5], [5]), ([4, 6, 3], [4, 6]), ([7], [7]), ([8], [8]), ([3, 9], [3, 9]), ([10, 7], [10]), ([11], [11]), ([12, 11], [11, 12]), ([11], [11]), ([14, 11], [11, 14]), ([13, 15, 11, 11], [11, 13, 15]), ([16, 11], [11, 16]), ([17, 11], [11, 17]), ([11, 18], [11, 18]), ([19, 16, 0, 1, 2, 3, 4, 5, 6, 7, 8, 9, 10, 11, 12, 13, 14, 15, 16, 17, 18, 19], [19])])
def skiarealaw52_ClosureTargets.B22 : List Nat := [0, 0, 2, 7, 0, 0, 32, 127, 255, 511, 1023, 2047, 4095, 8191, 4095, 20479, 65535, 131071, 262143, 524287, 1048575]
theorem skiarealaw52_ClosureTargets.tab22 : rtab .any (opsOf Try.f8 22) = skiarealaw52_ClosureTargets.T22 := by kernel_rfl
theorem skiarealaw52_ClosureTargets.bits22 : waitsOk skiarealaw52_ClosureTargets.T22.2 skiarealaw52_ClosureTargets.B22 = true := by kernel_rfl
set_option maxHeartbeats 8000000 in
set_option maxRecDepth 100000 in
theorem skiarealaw52_ClosureTargets.calls (k : Nat) (A0_0 : Option Addr) (c0_0 : Nat) (l0_0 : List (S59)) (A0_1 : Option Addr) (c0_1 : Nat) (l0_1 : List (S76)) (A0_2 : Option Addr) (c0_2 : Nat) (l0_2 : List (S56)) (A0_3 : Option Addr) (c0_3 : Nat) (l0_3 : List Int) (A1 : Option Addr) (c1 : Nat) (l1 : List (S28)) (a2_0 : Int) (a2_1 : Int) (a2_2 : Int) (a2_3 : Int) (r : Bool) (w : World) (hr0_0 : Kd.C k59 w A0_0 l0_0.length l0_0) (hc0_0 : l0_0.length ≤ c0_0) (hr0_1 : Kd.C k76 w A0_1 l0_1.length l0_1) (hc0_1 : l0_1.length ≤ c0_1) (hr0_2 : Kd.C k56 w A0_2 l0_2.length l0_2) (hc0_2 : l0_2.length ≤ c0_2) (hr0_3 : Kd.C (Kd.int .i64) w A0_3 l0_3.length l0_3) (hc0_3 : l0_3.length ≤ c0_3) (hr1 : Kd.C k28 w A1 l1.length l1) (hc1 : l1.length ≤ c1) (h : skiarealaw52_ClosureTargets.f k l0_0 l0_1 l0_2 l0_3 l1 a2_0 a2_1 a2_2 a2_3 = some r) :
  Calls Try.prog 8 #[.agg #[.slice A0_0 l0_0.length c0_0, .slice A0_1 l0_1.length c0_1, .slice A0_2 l0_2.length c0_2, .slice A0_3 l0_3.length c0_3], .slice A1 l1.length c1, .agg #[.int .i64 a2_0, .int .i64 a2_1, .int .i64 a2_2, .int .i64 a2_3]] w fun e w' => e = .returned (.bool r) ∧ Below w.heap.size w w' := by
 have hu41 := Try.underlying41; have hu28 := Try.underlying28; have hu56 := Try.underlying56; have HR0_0 := Aside0.mk hr0_0; have HC0_0 := Aside0.mk hc0_0; clear hr0_0 hc0_0; have HR0_1 := Aside0.mk hr0_1; have HC0_1 := Aside0.mk hc0_1; clear hr0_1 hc0_1; have HR0_2 := Aside0.mk hr0_2; have HC0_2 := Aside0.mk hc0_2; clear hr0_2 hc0_2; have HR0_3 := Aside0.mk hr0_3; have HC0_3 := Aside0.mk hc0_3; clear hr0_3 hc0_3; have HR1 := Aside0.mk hr1; have HC1 := Aside0.mk hc1; clear hr1 hc1; have HB := Aside0.mk (Below.refl w.heap.size w); have H : ((skiarealaw52_alive.f k).bind fun t409 => (if t409 = true then ((skiarealaw52_right.f k l1).bind fun t410 => (if t410 = true then ((skiarearef10_Right.f k l0_0 l0_1 l0_2 l0_3).bind fun t411 => (skiarealaw52_ClosureTargets.j0 k l1 (t411 != 0) l0_0 l0_1 l0_2 l0_3 a2_0 a2_1 a2_2 a2_3)) else (skiarealaw52_ClosureTargets.j0 k l1 true l0_0 l0_1 l0_2 l0_3 a2_0 a2_1 a2_2 a2_3))) else (none))) = some r := h; clear h; replace H := Option.bind_eq_some_iff.mp H; obtain ⟨t409, A40, H⟩ := H; replace H : (if t409 = true then ((skiarealaw52_right.f k l1).bind fun t410 => (if t410 = true then ((skiarearef10_Right.f k l0_0 l0_1 l0_2 l0_3).bind fun t411 => (skiarealaw52_ClosureTargets.j0 k l1 (t411 != 0) l0_0 l0_1 l0_2 l0_3 a2_0 a2_1 a2_2 a2_3)) else (skiarealaw52_ClosureTargets.j0 k l1 true l0_0 l0_1 l0_2 l0_3 a2_0 a2_1 a2_2 a2_3))) else (none)) = some r := H; have A4 := Aside0.mk A40; clear A40; by_cases c5 : t409 = true
 ·
  subst c5; have H1 : ((skiarealaw52_right.f k l1).bind fun t410 => (if t410 = true then ((skiarearef10_Right.f k l0_0 l0_1 l0_2 l0_3).bind fun t411 => (skiarealaw52_ClosureTargets.j0 k l1 (t411 != 0) l0_0 l0_1 l0_2 l0_3 a2_0 a2_1 a2_2 a2_3)) else (skiarealaw52_ClosureTargets.j0 k l1 true l0_0 l0_1 l0_2 l0_3 a2_0 a2_1 a2_2 a2_3))) = some r := by rw [if_pos rfl] at H; exact H
  clear H; have H := H1; clear H1; have HC6 := Aside0.mk H; clear H; go_enter Try.func8, Try.ntmps8
  go_upto_region 3 with (first | ((with_reducible refine gate_dst (N := 3) rfl ?_); (try (refine gate_guard (by rfl) ?_; dsimp only)); refine box_event ?hg (N := 3) ?hd (cs := #[.slice A0_0 l0_0.length c0_0, .slice A0_1 l0_1.length c0_1, .slice A0_2 l0_2.length c0_2, .slice A0_3 l0_3.length c0_3]) (t := 41) ?hr ?_; (case hd => rfl); (case hg => rfl); (case hr => first | (go_simp; done) | (go_simp; rfl)); intro gb407 hg w7 hbox hb; have n0_ := Aside0.mk (below_step (by repeat (first | (with_reducible first | exact HB.out | apply lA_ | apply lN_ | apply lD_) | exact HB.out)) hb); have n1_ := Aside0.mk (hbox); have n2_ := Aside0.mk ((by rw [hg]; exact (below_size (by repeat (first | (with_reducible first | exact HB.out | apply lA_ | apply lN_ | apply lD_) | exact HB.out))) : w.heap.size ≤ gb407)); have n3_ := Aside0.mk ((by rw [hg]; exact (below_size (by repeat (first | (with_reducible first | exact HB.out | apply lA_ | apply lN_ | apply lD_) | exact HB.out))) : w.heap.size ≤ gb407)); clear HB; have HB := n0_; have BK407 := n1_; have GW407 := n2_; have GE407 := n3_; clear n0_ n1_ n2_ n3_; clear hb hbox hg) | ((with_reducible refine gate_dst (N := 5) rfl ?_); (try (refine gate_guard (by rfl) ?_; dsimp only)); refine box_event ?hg (N := 5) ?hd (cs := #[.int .i64 a2_0, .int .i64 a2_1, .int .i64 a2_2, .int .i64 a2_3]) (t := 28) ?hr ?_; (case hd => rfl); (case hg => rfl); (case hr => first | (go_simp; done) | (go_simp; rfl)); intro gb408 hg w8 hbox hb; have n0_ := Aside0.mk (blk_below (g := gb407) (o := .cells #[.slice A0_0 l0_0.length c0_0, .slice A0_1 l0_1.length c0_1, .slice A0_2 l0_2.length c0_2, .slice A0_3 l0_3.length c0_3] 41 (0, 0)) (by (with_reducible repeat (first | refine bN_ ?_ _ | refine bD_ ?_ | refine bA_ ?_ _)); exact BK407.out) hb); have n1_ := Aside0.mk (below_step (by repeat (first | (with_reducible first | exact HB.out | apply lA_ | apply lN_ | apply lD_ | refine lS_ ?_ GE407.out) | exact HB.out)) hb); have n2_ := Aside0.mk (hbox); have n3_ := Aside0.mk ((by rw [hg]; exact (below_size (by repeat (first | (with_reducible first | exact HB.out | apply lA_ | apply lN_ | apply lD_ | refine lS_ ?_ GE407.out) | exact HB.out))) : w.heap.size ≤ gb408)); have n4_ := Aside0.mk ((by rw [hg]; exact (below_size (by repeat (first | (with_reducible first | exact HB.out | apply lA_ | apply lN_ | apply lD_ | refine lS_ ?_ GE407.out) | exact HB.out))) : w.heap.size ≤ gb408)); have n5_ := Aside0.mk ((by rw [hg]; exact Nat.ne_of_lt (blk_lt (g := gb407) (o := .cells #[.slice A0_0 l0_0.length c0_0, .slice A0_1 l0_1.length c0_1, .slice A0_2 l0_2.length c0_2, .slice A0_3 l0_3.length c0_3] 41 (0, 0)) (by (with_reducible repeat (first | refine bN_ ?_ _ | refine bD_ ?_ | refine bA_ ?_ _)); exact BK407.out)) : gb407 ≠ gb408)); have n6_ := Aside0.mk ((by rw [hg]; exact Nat.ne_of_gt (blk_lt (g := gb407) (o := .cells #[.slice A0_0 l0_0.length c0_0, .slice A0_1 l0_1.length c0_1, .slice A0_2 l0_2.length c0_2, .slice A0_3 l0_3.length c0_3] 41 (0, 0)) (by (with_reducible repeat (first | refine bN_ ?_ _ | refine bD_ ?_ | refine bA_ ?_ _)); exact BK407.out)) : gb408 ≠ gb407)); clear BK407; clear HB; have BK407 := n0_; have HB := n1_; have BK408 := n2_; have GW408 := n3_; have GE408 := n4_; have NB407_408 := n5_; have NB408_407 := n6_; clear n0_ n1_ n2_ n3_ n4_ n5_ n6_; clear hb hbox hg) | ((with_reducible refine gate_callee (f := 9) rfl ?_); refine goesL_ (some 15) rfl rfl Try.func9 (by kernel_rfl) rfl #[] rfl (by (try simp only [List.map_toArray, List.map_cons, List.map_nil]); first | done | rfl | (simp only [List.length_drop, List.length_take]; rfl)) ?_; (with_reducible refine (skiarealaw52_alive.calls k  true _ A4.out).mono ?_); rintro e w9 ⟨rfl, hb⟩; refine ⟨_, rfl, ?_⟩; have n0_ := Aside0.mk (blk_below (g := gb407) (o := .cells #[.slice A0_0 l0_0.length c0_0, .slice A0_1 l0_1.length c0_1, .slice A0_2 l0_2.length c0_2, .slice A0_3 l0_3.length c0_3] 41 (0, 0)) (by (with_reducible repeat (first | refine bN_ ?_ _ | refine bD_ ?_ | refine bA_ ?_ _)); exact BK407.out) hb); have n1_ := Aside0.mk (blk_below (g := gb408) (o := .cells #[.int .i64 a2_0, .int .i64 a2_1, .int .i64 a2_2, .int .i64 a2_3] 28 (0, 0)) (by (with_reducible repeat (first | refine bN_ ?_ _ | refine bD_ ?_ | refine bA_ ?_ _)); exact BK408.out) hb); have n2_ := Aside0.mk (below_step (by repeat (first | (with_reducible first | exact HB.out | apply lA_ | apply lN_ | apply lD_ | refine lS_ ?_ GE407.out | refine lS_ ?_ GE408.out) | exact HB.out)) hb); clear BK407; clear BK408; clear HB; have BK407 := n0_; have BK408 := n1_; have HB := n2_; clear n0_ n1_ n2_; (try clear hb); (try clear hb2); (try clear hk); (try clear hi)))
  (try simp only [Act.put, List.setIfInBounds_toArray, List.set_cons_zero, List.set_cons_succ])
  go_cut [24] (fun v24 wc => ∃ (kq : Nat) (x24_5 : Bool), v24 = .bool x24_5 ∧ Aside0 (skiarealaw52_ClosureTargets.j0 kq l1 x24_5 l0_0 l0_1 l0_2 l0_3 a2_0 a2_1 a2_2 a2_3 = some r) ∧ Aside0 (kq ≤ k) ∧ Aside0 (wc.heap[gb407]? = some (.cells #[(.slice A0_0 l0_0.length c0_0), (.slice A0_1 l0_1.length c0_1), (.slice A0_2 l0_2.length c0_2), (.slice A0_3 l0_3.length c0_3)] 41 (0, 0))) ∧ Aside0 (wc.heap[gb408]? = some (.cells #[.int .i64 a2_0, .int .i64 a2_1, .int .i64 a2_2, .int .i64 a2_3] 28 (0, 0))) ∧ Aside0 (Below w.heap.size w wc))
  case first =>
   have H := HC6.out; clear HC6; replace H := Option.bind_eq_some_iff.mp H; obtain ⟨t410, A100, H⟩ := H; replace H : (if t410 = true then ((skiarearef10_Right.f k l0_0 l0_1 l0_2 l0_3).bind fun t411 => (skiarealaw52_ClosureTargets.j0 k l1 (t411 != 0) l0_0 l0_1 l0_2 l0_3 a2_0 a2_1 a2_2 a2_3)) else (skiarealaw52_ClosureTargets.j0 k l1 true l0_0 l0_1 l0_2 l0_3 a2_0 a2_1 a2_2 a2_3)) = some r := H; have A10 := Aside0.mk A100; clear A100; by_cases c11 : t410 = true
   ·
    subst c11; have H1 : ((skiarearef10_Right.f k l0_0 l0_1 l0_2 l0_3).bind fun t411 => (skiarealaw52_ClosureTargets.j0 k l1 (t411 != 0) l0_0 l0_1 l0_2 l0_3 a2_0 a2_1 a2_2 a2_3)) = some r := by rw [if_pos rfl] at H; exact H
    clear H; have H := H1; clear H1; replace H := Option.bind_eq_some_iff.mp H; obtain ⟨t411, A120, H⟩ := H; replace H : (skiarealaw52_ClosureTargets.j0 k l1 (t411 != 0) l0_0 l0_1 l0_2 l0_3 a2_0 a2_1 a2_2 a2_3) = some r := H; have A12 := Aside0.mk A120; clear A120; have H' := Aside0.mk H; clear H
    go_wp2_with (first | ((with_reducible refine gate_callee (f := 12) rfl ?_); refine goesL_ (some 18) rfl rfl Try.func12 (by kernel_rfl) rfl #[.slice A1 l1.length c1] rfl (by (try simp only [List.map_toArray, List.map_cons, List.map_nil]); first | done | rfl | (simp only [List.length_drop, List.length_take]; rfl)) ?_; (with_reducible refine (skiarealaw52_right.calls k _ _ l1 true _ ?side1 ?side2 A10.out).mono ?_); (case side1 => repeat (first | exact (Kd.C_below HR1.out HB.out) | (with_reducible refine Kd.cA_ ?_ _) | (with_reducible refine Kd.cN_ ?_ _) | (with_reducible refine Kd.cD_ ?_))); (case side2 => exact HC1.out); rintro e w13 ⟨rfl, hb⟩; refine ⟨_, rfl, ?_⟩; have n0_ := Aside0.mk (blk_below (g := gb407) (o := .cells #[.slice A0_0 l0_0.length c0_0, .slice A0_1 l0_1.length c0_1, .slice A0_2 l0_2.length c0_2, .slice A0_3 l0_3.length c0_3] 41 (0, 0)) (by (with_reducible repeat (first | refine bN_ ?_ _ | refine bD_ ?_ | refine bA_ ?_ _)); exact BK407.out) hb); have n1_ := Aside0.mk (blk_below (g := gb408) (o := .cells #[.int .i64 a2_0, .int .i64 a2_1, .int .i64 a2_2, .int .i64 a2_3] 28 (0, 0)) (by (with_reducible repeat (first | refine bN_ ?_ _ | refine bD_ ?_ | refine bA_ ?_ _)); exact BK408.out) hb); have n2_ := Aside0.mk (below_step (by repeat (first | (with_reducible first | exact HB.out | apply lA_ | apply lN_ | apply lD_ | refine lS_ ?_ GE407.out | refine lS_ ?_ GE408.out) | exact HB.out)) hb); clear BK407; clear BK408; clear HB; have BK407 := n0_; have BK408 := n1_; have HB := n2_; clear n0_ n1_ n2_; (try clear hb); (try clear hb2); (try clear hk); (try clear hi); have hnb14 := NB407_408.out; have hnc14 := NB408_407.out; have hcz15_0 : w13.cell? ⟨gb407, 0, none⟩ = some (.slice A0_0 l0_0.length c0_0) := (blk_cell BK407.out 0).trans rfl; have hcz15_1 : w13.cell? ⟨gb407, 1, none⟩ = some (.slice A0_1 l0_1.length c0_1) := (blk_cell BK407.out 1).trans rfl; have hcz15_2 : w13.cell? ⟨gb407, 2, none⟩ = some (.slice A0_2 l0_2.length c0_2) := (blk_cell BK407.out 2).trans rfl; have hcz15_3 : w13.cell? ⟨gb407, 3, none⟩ = some (.slice A0_3 l0_3.length c0_3) := (blk_cell BK407.out 3).trans rfl; have hfz15_0 := blk_frozen BK407.out 0; have hfz15_1 := blk_frozen BK407.out 1; have hfz15_2 := blk_frozen BK407.out 2; have hfz15_3 := blk_frozen BK407.out 3) | (go_at_call 18; (with_reducible refine (skiarearef10_Right.calls k _ _ l0_0 _ _ l0_1 _ _ l0_2 _ _ l0_3 t411 _ ?side1 ?side2 ?side3 ?side4 ?side5 ?side6 ?side7 ?side8 A12.out).mono ?_); (case side1 => repeat (first | exact (Kd.C_below HR0_0.out HB.out) | (with_reducible refine Kd.cA_ ?_ _) | (with_reducible refine Kd.cN_ ?_ _) | (with_reducible refine Kd.cD_ ?_))); (case side2 => exact HC0_0.out); (case side3 => repeat (first | exact (Kd.C_below HR0_1.out HB.out) | (with_reducible refine Kd.cA_ ?_ _) | (with_reducible refine Kd.cN_ ?_ _) | (with_reducible refine Kd.cD_ ?_))); (case side4 => exact HC0_1.out); (case side5 => repeat (first | exact (Kd.C_below HR0_2.out HB.out) | (with_reducible refine Kd.cA_ ?_ _) | (with_reducible refine Kd.cN_ ?_ _) | (with_reducible refine Kd.cD_ ?_))); (case side6 => exact HC0_2.out); (case side7 => repeat (first | exact (Kd.C_below HR0_3.out HB.out) | (with_reducible refine Kd.cA_ ?_ _) | (with_reducible refine Kd.cN_ ?_ _) | (with_reducible refine Kd.cD_ ?_))); (case side8 => exact HC0_3.out); rintro e w16 ⟨rfl, hb⟩; (try clear A12); have n0_ := Aside0.mk (blk_below (g := gb407) (o := .cells #[.slice A0_0 l0_0.length c0_0, .slice A0_1 l0_1.length c0_1, .slice A0_2 l0_2.length c0_2, .slice A0_3 l0_3.length c0_3] 41 (0, 0)) (by (with_reducible repeat (first | refine bN_ ?_ _ | refine bD_ ?_ | refine bA_ ?_ _)); exact BK407.out) hb); have n1_ := Aside0.mk (blk_below (g := gb408) (o := .cells #[.int .i64 a2_0, .int .i64 a2_1, .int .i64 a2_2, .int .i64 a2_3] 28 (0, 0)) (by (with_reducible repeat (first | refine bN_ ?_ _ | refine bD_ ?_ | refine bA_ ?_ _)); exact BK408.out) hb); have n2_ := Aside0.mk (below_step (by repeat (first | (with_reducible first | exact HB.out | apply lA_ | apply lN_ | apply lD_ | refine lS_ ?_ GE407.out | refine lS_ ?_ GE408.out) | exact HB.out)) hb); clear BK407; clear BK408; clear HB; have BK407 := n0_; have BK408 := n1_; have HB := n2_; clear n0_ n1_ n2_; (try clear hb); (try clear hb2); (try clear hk); (try clear hi)))
    go_meet
    case rel => exact ⟨_, ((t411 != 0)), (by first | rfl | (simp; done) | (simp [*]; done)), H', ⟨by first | omega | exact Nat.le_refl _⟩, ⟨by (with_reducible repeat (first | refine bN_ ?_ _ | refine bD_ ?_ | refine bA_ ?_ _)); exact BK407.out⟩, ⟨by (with_reducible repeat (first | refine bN_ ?_ _ | refine bD_ ?_ | refine bA_ ?_ _)); exact BK408.out⟩, ⟨by repeat (first | (with_reducible first | exact HB.out | apply lA_ | apply lN_ | apply lD_ | refine lS_ ?_ GE407.out | refine lS_ ?_ GE408.out) | exact HB.out)⟩⟩
   ·
    replace c11 := Bool.eq_false_iff.mpr c11; subst c11; have H1 : (skiarealaw52_ClosureTargets.j0 k l1 true l0_0 l0_1 l0_2 l0_3 a2_0 a2_1 a2_2 a2_3) = some r := by rw [if_neg (show ¬ (false = true) by decide)] at H; exact H
    clear H; have H := H1; clear H1; have H' := Aside0.mk H; clear H; go_wp2_with (first | ((with_reducible refine gate_callee (f := 12) rfl ?_); refine goesL_ (some 18) rfl rfl Try.func12 (by kernel_rfl) rfl #[.slice A1 l1.length c1] rfl (by (try simp only [List.map_toArray, List.map_cons, List.map_nil]); first | done | rfl | (simp only [List.length_drop, List.length_take]; rfl)) ?_; (with_reducible refine (skiarealaw52_right.calls k _ _ l1 false _ ?side1 ?side2 A10.out).mono ?_); (case side1 => repeat (first | exact (Kd.C_below HR1.out HB.out) | (with_reducible refine Kd.cA_ ?_ _) | (with_reducible refine Kd.cN_ ?_ _) | (with_reducible refine Kd.cD_ ?_))); (case side2 => exact HC1.out); rintro e w17 ⟨rfl, hb⟩; refine ⟨_, rfl, ?_⟩; have n0_ := Aside0.mk (blk_below (g := gb407) (o := .cells #[.slice A0_0 l0_0.length c0_0, .slice A0_1 l0_1.length c0_1, .slice A0_2 l0_2.length c0_2, .slice A0_3 l0_3.length c0_3] 41 (0, 0)) (by (with_reducible repeat (first | refine bN_ ?_ _ | refine bD_ ?_ | refine bA_ ?_ _)); exact BK407.out) hb); have n1_ := Aside0.mk (blk_below (g := gb408) (o := .cells #[.int .i64 a2_0, .int .i64 a2_1, .int .i64 a2_2, .int .i64 a2_3] 28 (0, 0)) (by (with_reducible repeat (first | refine bN_ ?_ _ | refine bD_ ?_ | refine bA_ ?_ _)); exact BK408.out) hb); have n2_ := Aside0.mk (below_step (by repeat (first | (with_reducible first | exact HB.out | apply lA_ | apply lN_ | apply lD_ | refine lS_ ?_ GE407.out | refine lS_ ?_ GE408.out) | exact HB.out)) hb); clear BK407; clear BK408; clear HB; have BK407 := n0_; have BK408 := n1_; have HB := n2_; clear n0_ n1_ n2_; (try clear hb); (try clear hb2); (try clear hk); (try clear hi)))
    go_meet
    case rel => exact ⟨_, (true), (by first | rfl | (simp; done) | (simp [*]; done)), H', ⟨by first | omega | exact Nat.le_refl _⟩, ⟨by (with_reducible repeat (first | refine bN_ ?_ _ | refine bD_ ?_ | refine bA_ ?_ _)); exact BK407.out⟩, ⟨by (with_reducible repeat (first | refine bN_ ?_ _ | refine bD_ ?_ | refine bA_ ?_ _)); exact BK408.out⟩, ⟨by repeat (first | (with_reducible first | exact HB.out | apply lA_ | apply lN_ | apply lD_ | refine lS_ ?_ GE407.out | refine lS_ ?_ GE408.out) | exact HB.out)⟩⟩
  case rest =>
   clear HC6; try clear c1
   try clear p2
   try clear c5
   try clear c8
   try clear c9
   try clear c11
   try clear c12
   try clear c14
   try clear hcz15_0
   try clear hcz15_1
   try clear hcz15_2
   try clear hcz15_3
   try clear hfz15_0
   try clear hfz15_1
   try clear hfz15_2
   try clear hfz15_3
   obtain ⟨kq, x24_5, rfl, HA, HJ5, BK407, BK408, HB⟩ := hcut
   cases kq with
   | zero => exact absurd HA.out (by simp [skiarealaw52_ClosureTargets.j0])
   | succ kj5 =>
    have H := HA.out; clear HA; simp only [skiarealaw52_ClosureTargets.j0] at H
    by_cases c18 : x24_5 = true
    ·
     subst c18; have H1 : (some true) = some r := by rw [if_pos rfl] at H; exact H
     clear H; have H := H1; clear H1; obtain rfl := Option.some.inj H; go_wp2
     go_ret
     exact ⟨by first | rfl | (simp [errW_none, errW_some] <;> rfl) | (simp [*, errW_none, errW_some] <;> rfl), by repeat (first | (with_reducible first | exact HB.out | apply lA_ | apply lN_ | apply lD_ | refine lS_ ?_ GE407.out | refine lS_ ?_ GE408.out) | exact HB.out)⟩
    ·
     replace c18 := Bool.eq_false_iff.mpr c18; subst c18; have H1 : ((closure_Close.f l1 a2_0 a2_1 a2_2 a2_3).bind fun bt412 => (skiarealaw52_ClosureTargets.l0 kj5 l1 bt412.1 bt412.2 0 l0_0 l0_1 l0_2 l0_3 a2_0 a2_1 a2_2 a2_3)) = some r := by rw [if_neg (show ¬ (false = true) by decide)] at H; exact H
     clear H; have H := H1; clear H1; replace H := Option.bind_eq_some_iff.mp H; obtain ⟨⟨t412, t415⟩, A190, H⟩ := H; replace H : (skiarealaw52_ClosureTargets.l0 kj5 l1 t412 t415 0 l0_0 l0_1 l0_2 l0_3 a2_0 a2_1 a2_2 a2_3) = some r := H; have A19 := Aside0.mk A190; clear A190; have H' := Aside0.mk H; clear H; have hnb20 := NB408_407.out; have hnc20 := NB407_408.out; have hcz21_0 : wc.cell? ⟨gb408, 0, none⟩ = some (.int .i64 a2_0) := (blk_cell BK408.out 0).trans rfl; have hcz21_1 : wc.cell? ⟨gb408, 1, none⟩ = some (.int .i64 a2_1) := (blk_cell BK408.out 1).trans rfl; have hcz21_2 : wc.cell? ⟨gb408, 2, none⟩ = some (.int .i64 a2_2) := (blk_cell BK408.out 2).trans rfl; have hcz21_3 : wc.cell? ⟨gb408, 3, none⟩ = some (.int .i64 a2_3) := (blk_cell BK408.out 3).trans rfl; have hfz21_0 := blk_frozen BK408.out 0; have hfz21_1 := blk_frozen BK408.out 1; have hfz21_2 := blk_frozen BK408.out 2; have hfz21_3 := blk_frozen BK408.out 3
     go_wp2_with (first | ((with_reducible refine gate_callee (f := 13) rfl ?_); refine goesL_ (some 28) rfl rfl Try.func13 (by kernel_rfl) rfl #[.slice A1 l1.length c1, .agg #[.int .i64 a2_0, .int .i64 a2_1, .int .i64 a2_2, .int .i64 a2_3]] rfl (by (try simp only [List.map_toArray, List.map_cons, List.map_nil]); first | done | rfl | (simp only [List.length_drop, List.length_take]; rfl)) ?_; (with_reducible refine (closure_Close.calls _ _ l1 a2_0 a2_1 a2_2 a2_3 t412 t415 _ ?side1 ?side2 A19.out).mono ?_); (case side1 => repeat (first | exact (Kd.C_below HR1.out HB.out) | (with_reducible refine Kd.cA_ ?_ _) | (with_reducible refine Kd.cN_ ?_ _) | (with_reducible refine Kd.cD_ ?_))); (case side2 => exact HC1.out); rintro e w22 ⟨v413, rfl, ho0, hb⟩; refine ⟨_, rfl, ?_⟩; have n0_ := Aside0.mk (Kd.R_lower (Kd.R_newB ho0 (g := gb408) (o := .cells #[.int .i64 a2_0, .int .i64 a2_1, .int .i64 a2_2, .int .i64 a2_3] 28 (0, 0)) (by (with_reducible repeat (first | refine bN_ ?_ _ | refine bD_ ?_ | refine bA_ ?_ _)); exact BK408.out)) (below_size (by repeat (first | (with_reducible first | exact HB.out | apply lA_ | apply lN_ | apply lD_ | refine lS_ ?_ GE407.out | refine lS_ ?_ GE408.out) | exact HB.out)))); have n1_ := Aside0.mk (blk_below (g := gb407) (o := .cells #[.slice A0_0 l0_0.length c0_0, .slice A0_1 l0_1.length c0_1, .slice A0_2 l0_2.length c0_2, .slice A0_3 l0_3.length c0_3] 41 (0, 0)) (by (with_reducible repeat (first | refine bN_ ?_ _ | refine bD_ ?_ | refine bA_ ?_ _)); exact BK407.out) hb); have n2_ := Aside0.mk (blk_below (g := gb408) (o := .cells #[.int .i64 a2_0, .int .i64 a2_1, .int .i64 a2_2, .int .i64 a2_3] 28 (0, 0)) (by (with_reducible repeat (first | refine bN_ ?_ _ | refine bD_ ?_ | refine bA_ ?_ _)); exact BK408.out) hb); have n3_ := Aside0.mk (below_step (by repeat (first | (with_reducible first | exact HB.out | apply lA_ | apply lN_ | apply lD_ | refine lS_ ?_ GE407.out | refine lS_ ?_ GE408.out) | exact HB.out)) hb); clear BK407; clear BK408; clear HB; have HO414 := n0_; have BK407 := n1_; have BK408 := n2_; have HB := n3_; clear n0_ n1_ n2_ n3_; (try clear hb); (try clear hb2); (try clear hk); (try clear hi); (try clear ho0)))
     go_loopg [9] kj5 (fun kq v9 w' => ∃ (x9_2 : Int), v9 = .int .i64 x9_2 ∧ Aside0 (skiarealaw52_ClosureTargets.l0 kq l1 t412 t415 x9_2 l0_0 l0_1 l0_2 l0_3 a2_0 a2_1 a2_2 a2_3 = some r) ∧ Aside0 (kq ≤ kj5) ∧ Aside0 (Kd.R k28 28 w' w.heap.size (fun k_ => k_ ≠ gb408) v413 t412) ∧ Aside0 (w'.heap[gb407]? = some (.cells #[(.slice A0_0 l0_0.length c0_0), (.slice A0_1 l0_1.length c0_1), (.slice A0_2 l0_2.length c0_2), (.slice A0_3 l0_3.length c0_3)] 41 (0, 0))) ∧ Aside0 (w'.heap[gb408]? = some (.cells #[.int .i64 a2_0, .int .i64 a2_1, .int .i64 a2_2, .int .i64 a2_3] 28 (0, 0))) ∧ Aside0 (Below w.heap.size w w'))
     case atStart => exact ⟨(0), (by first | rfl | (simp; done) | (simp [*]; done)), H', ⟨Nat.le_refl _⟩, ⟨by (with_reducible repeat (first | apply Kd.rA_ | apply Kd.rN_ | apply Kd.rD_)); exact Kd.R_mono HO414.out (fun _ hk => hk.2)⟩, ⟨by (with_reducible repeat (first | refine bN_ ?_ _ | refine bD_ ?_ | refine bA_ ?_ _)); exact BK407.out⟩, ⟨by (with_reducible repeat (first | refine bN_ ?_ _ | refine bD_ ?_ | refine bA_ ?_ _)); exact BK408.out⟩, ⟨by repeat (first | (with_reducible first | exact HB.out | apply lA_ | apply lN_ | apply lD_ | refine lS_ ?_ GE407.out | refine lS_ ?_ GE408.out) | exact HB.out)⟩⟩
     case round =>
      clear H'; try clear c1
      try clear c2
      try clear p2
      try clear c5
      try clear c8
      try clear c9
      try clear c11
      try clear c12
      try clear c13
      try clear c14
      try clear c18
      try clear c20
      try clear hcz15_0
      try clear hcz15_1
      try clear hcz15_2
      try clear hcz15_3
      try clear hcz21_0
      try clear hcz21_1
      try clear hcz21_2
      try clear hcz21_3
      try clear hfz15_0
      try clear hfz15_1
      try clear hfz15_2
      try clear hfz15_3
      try clear hfz21_0
      try clear hfz21_1
      try clear hfz21_2
      try clear hfz21_3
      try clear p2
      obtain ⟨x9_2, rfl, HA, HK2, HO_7, BK407, BK408, HB⟩ := hrel
      cases gk with
      | zero => exact absurd HA.out (by simp [skiarealaw52_ClosureTargets.l0])
      | succ k2 =>
       have H := HA.out; clear HA; simp only [skiarealaw52_ClosureTargets.l0] at H
       by_cases c23 : x9_2 < (l0_2.length : Int)
       ·
        rw [if_pos c23] at H
        have c23b0 : decide (x9_2 < (l0_2.length : Int)) = true := decide_eq_true c23; clear c23; by_cases c24 : 0 ≤ x9_2
        ·
         rw [if_pos c24] at H
         have c24b0 : decide (0 ≤ x9_2) = true := decide_eq_true c24; clear c24; replace H := Option.bind_eq_some_iff.mp H; obtain ⟨t418, A250, H⟩ := H; replace H : ((closure_Of.f k2 l1 1 ((rd_T56 l0_2 x9_2).f0)).bind fun t419 => ((closure_Of.f k2 l1 3 ((rd_T56 l0_2 x9_2).f5)).bind fun t422 => (if (t418 != (decide ((wrap64 ((t419.length : Int) + (t422.length : Int))) > 0))) = true then (none) else (if a2_0 = 1 then (if a2_1 = ((rd_T56 l0_2 x9_2).f0) then (skiarealaw52_ClosureTargets.j2 k2 l1 t412 t415 x9_2 t418 true l0_0 l0_1 l0_2 l0_3 a2_0 a2_1 a2_2 a2_3 ((rd_T56 l0_2 x9_2).f0) ((rd_T56 l0_2 x9_2).f1) ((rd_T56 l0_2 x9_2).f2) ((rd_T56 l0_2 x9_2).f3) ((rd_T56 l0_2 x9_2).f4) ((rd_T56 l0_2 x9_2).f5) ((rd_T56 l0_2 x9_2).f6)) else (if a2_0 = 3 then (skiarealaw52_ClosureTargets.j2 k2 l1 t412 t415 x9_2 t418 (a2_1 == ((rd_T56 l0_2 x9_2).f5)) l0_0 l0_1 l0_2 l0_3 a2_0 a2_1 a2_2 a2_3 ((rd_T56 l0_2 x9_2).f0) ((rd_T56 l0_2 x9_2).f1) ((rd_T56 l0_2 x9_2).f2) ((rd_T56 l0_2 x9_2).f3) ((rd_T56 l0_2 x9_2).f4) ((rd_T56 l0_2 x9_2).f5) ((rd_T56 l0_2 x9_2).f6)) else (skiarealaw52_ClosureTargets.j2 k2 l1 t412 t415 x9_2 t418 false l0_0 l0_1 l0_2 l0_3 a2_0 a2_1 a2_2 a2_3 ((rd_T56 l0_2 x9_2).f0) ((rd_T56 l0_2 x9_2).f1) ((rd_T56 l0_2 x9_2).f2) ((rd_T56 l0_2 x9_2).f3) ((rd_T56 l0_2 x9_2).f4) ((rd_T56 l0_2 x9_2).f5) ((rd_T56 l0_2 x9_2).f6)))) else (if a2_0 = 3 then (skiarealaw52_ClosureTargets.j2 k2 l1 t412 t415 x9_2 t418 (a2_1 == ((rd_T56 l0_2 x9_2).f5)) l0_0 l0_1 l0_2 l0_3 a2_0 a2_1 a2_2 a2_3 ((rd_T56 l0_2 x9_2).f0) ((rd_T56 l0_2 x9_2).f1) ((rd_T56 l0_2 x9_2).f2) ((rd_T56 l0_2 x9_2).f3) ((rd_T56 l0_2 x9_2).f4) ((rd_T56 l0_2 x9_2).f5) ((rd_T56 l0_2 x9_2).f6)) else (skiarealaw52_ClosureTargets.j2 k2 l1 t412 t415 x9_2 t418 false l0_0 l0_1 l0_2 l0_3 a2_0 a2_1 a2_2 a2_3 ((rd_T56 l0_2 x9_2).f0) ((rd_T56 l0_2 x9_2).f1) ((rd_T56 l0_2 x9_2).f2) ((rd_T56 l0_2 x9_2).f3) ((rd_T56 l0_2 x9_2).f4) ((rd_T56 l0_2 x9_2).f5) ((rd_T56 l0_2 x9_2).f6))))))) = some r := H; have A25 := Aside0.mk A250; clear A250; replace H := Option.bind_eq_some_iff.mp H; obtain ⟨t419, A260, H⟩ := H
         replace H : ((closure_Of.f k2 l1 3 ((rd_T56 l0_2 x9_2).f5)).bind fun t422 => (if (t418 != (decide ((wrap64 ((t419.length : Int) + (t422.length : Int))) > 0))) = true then (none) else (if a2_0 = 1 then (if a2_1 = ((rd_T56 l0_2 x9_2).f0) then (skiarealaw52_ClosureTargets.j2 k2 l1 t412 t415 x9_2 t418 true l0_0 l0_1 l0_2 l0_3 a2_0 a2_1 a2_2 a2_3 ((rd_T56 l0_2 x9_2).f0) ((rd_T56 l0_2 x9_2).f1) ((rd_T56 l0_2 x9_2).f2) ((rd_T56 l0_2 x9_2).f3) ((rd_T56 l0_2 x9_2).f4) ((rd_T56 l0_2 x9_2).f5) ((rd_T56 l0_2 x9_2).f6)) else (if a2_0 = 3 then (skiarealaw52_ClosureTargets.j2 k2 l1 t412 t415 x9_2 t418 (a2_1 == ((rd_T56 l0_2 x9_2).f5)) l0_0 l0_1 l0_2 l0_3 a2_0 a2_1 a2_2 a2_3 ((rd_T56 l0_2 x9_2).f0) ((rd_T56 l0_2 x9_2).f1) ((rd_T56 l0_2 x9_2).f2) ((rd_T56 l0_2 x9_2).f3) ((rd_T56 l0_2 x9_2).f4) ((rd_T56 l0_2 x9_2).f5) ((rd_T56 l0_2 x9_2).f6)) else (skiarealaw52_ClosureTargets.j2 k2 l1 t412 t415 x9_2 t418 false l0_0 l0_1 l0_2 l0_3 a2_0 a2_1 a2_2 a2_3 ((rd_T56 l0_2 x9_2).f0) ((rd_T56 l0_2 x9_2).f1) ((rd_T56 l0_2 x9_2).f2) ((rd_T56 l0_2 x9_2).f3) ((rd_T56 l0_2 x9_2).f4) ((rd_T56 l0_2 x9_2).f5) ((rd_T56 l0_2 x9_2).f6)))) else (if a2_0 = 3 then (skiarealaw52_ClosureTargets.j2 k2 l1 t412 t415 x9_2 t418 (a2_1 == ((rd_T56 l0_2 x9_2).f5)) l0_0 l0_1 l0_2 l0_3 a2_0 a2_1 a2_2 a2_3 ((rd_T56 l0_2 x9_2).f0) ((rd_T56 l0_2 x9_2).f1) ((rd_T56 l0_2 x9_2).f2) ((rd_T56 l0_2 x9_2).f3) ((rd_T56 l0_2 x9_2).f4) ((rd_T56 l0_2 x9_2).f5) ((rd_T56 l0_2 x9_2).f6)) else (skiarealaw52_ClosureTargets.j2 k2 l1 t412 t415 x9_2 t418 false l0_0 l0_1 l0_2 l0_3 a2_0 a2_1 a2_2 a2_3 ((rd_T56 l0_2 x9_2).f0) ((rd_T56 l0_2 x9_2).f1) ((rd_T56 l0_2 x9_2).f2) ((rd_T56 l0_2 x9_2).f3) ((rd_T56 l0_2 x9_2).f4) ((rd_T56 l0_2 x9_2).f5) ((rd_T56 l0_2 x9_2).f6)))))) = some r := H; have A26 := Aside0.mk A260; clear A260; replace H := Option.bind_eq_some_iff.mp H; obtain ⟨t422, A270, H⟩ := H
         replace H : (if (t418 != (decide ((wrap64 ((t419.length : Int) + (t422.length : Int))) > 0))) = true then (none) else (if a2_0 = 1 then (if a2_1 = ((rd_T56 l0_2 x9_2).f0) then (skiarealaw52_ClosureTargets.j2 k2 l1 t412 t415 x9_2 t418 true l0_0 l0_1 l0_2 l0_3 a2_0 a2_1 a2_2 a2_3 ((rd_T56 l0_2 x9_2).f0) ((rd_T56 l0_2 x9_2).f1) ((rd_T56 l0_2 x9_2).f2) ((rd_T56 l0_2 x9_2).f3) ((rd_T56 l0_2 x9_2).f4) ((rd_T56 l0_2 x9_2).f5) ((rd_T56 l0_2 x9_2).f6)) else (if a2_0 = 3 then (skiarealaw52_ClosureTargets.j2 k2 l1 t412 t415 x9_2 t418 (a2_1 == ((rd_T56 l0_2 x9_2).f5)) l0_0 l0_1 l0_2 l0_3 a2_0 a2_1 a2_2 a2_3 ((rd_T56 l0_2 x9_2).f0) ((rd_T56 l0_2 x9_2).f1) ((rd_T56 l0_2 x9_2).f2) ((rd_T56 l0_2 x9_2).f3) ((rd_T56 l0_2 x9_2).f4) ((rd_T56 l0_2 x9_2).f5) ((rd_T56 l0_2 x9_2).f6)) else (skiarealaw52_ClosureTargets.j2 k2 l1 t412 t415 x9_2 t418 false l0_0 l0_1 l0_2 l0_3 a2_0 a2_1 a2_2 a2_3 ((rd_T56 l0_2 x9_2).f0) ((rd_T56 l0_2 x9_2).f1) ((rd_T56 l0_2 x9_2).f2) ((rd_T56 l0_2 x9_2).f3) ((rd_T56 l0_2 x9_2).f4) ((rd_T56 l0_2 x9_2).f5) ((rd_T56 l0_2 x9_2).f6)))) else (if a2_0 = 3 then (skiarealaw52_ClosureTargets.j2 k2 l1 t412 t415 x9_2 t418 (a2_1 == ((rd_T56 l0_2 x9_2).f5)) l0_0 l0_1 l0_2 l0_3 a2_0 a2_1 a2_2 a2_3 ((rd_T56 l0_2 x9_2).f0) ((rd_T56 l0_2 x9_2).f1) ((rd_T56 l0_2 x9_2).f2) ((rd_T56 l0_2 x9_2).f3) ((rd_T56 l0_2 x9_2).f4) ((rd_T56 l0_2 x9_2).f5) ((rd_T56 l0_2 x9_2).f6)) else (skiarealaw52_ClosureTargets.j2 k2 l1 t412 t415 x9_2 t418 false l0_0 l0_1 l0_2 l0_3 a2_0 a2_1 a2_2 a2_3 ((rd_T56 l0_2 x9_2).f0) ((rd_T56 l0_2 x9_2).f1) ((rd_T56 l0_2 x9_2).f2) ((rd_T56 l0_2 x9_2).f3) ((rd_T56 l0_2 x9_2).f4) ((rd_T56 l0_2 x9_2).f5) ((rd_T56 l0_2 x9_2).f6))))) = some r := H; have A27 := Aside0.mk A270; clear A270; by_cases c28 : (t418 != (decide ((wrap64 ((t419.length : Int) + (t422.length : Int))) > 0))) = true
         ·
          rw [if_pos c28] at H
          exact absurd H (by simp)
         ·
          rw [if_neg c28] at H
          have c28b0 : (t418 != (decide ((wrap64 ((t419.length : Int) + (t422.length : Int))) > 0))) = false := by simpa using c28
          (try (have c28b1 : decide (t418 = (decide ((wrap64 ((t419.length : Int) + (t422.length : Int))) > 0))) = true := by simpa using c28))
          (try (have c28b2 : (t418 == (decide ((wrap64 ((t419.length : Int) + (t422.length : Int))) > 0))) = true := by simpa using c28))
          clear c28; have HC29 := Aside0.mk H; clear H; have hnb30 := NB407_408.out; have hnc30 := NB408_407.out; have hcz31_0 : wr.cell? ⟨gb407, 0, none⟩ = some (.slice A0_0 l0_0.length c0_0) := (blk_cell BK407.out 0).trans rfl; have hcz31_1 : wr.cell? ⟨gb407, 1, none⟩ = some (.slice A0_1 l0_1.length c0_1) := (blk_cell BK407.out 1).trans rfl; have hcz31_2 : wr.cell? ⟨gb407, 2, none⟩ = some (.slice A0_2 l0_2.length c0_2) := (blk_cell BK407.out 2).trans rfl; have hcz31_3 : wr.cell? ⟨gb407, 3, none⟩ = some (.slice A0_3 l0_3.length c0_3) := (blk_cell BK407.out 3).trans rfl; have hfz31_0 := blk_frozen BK407.out 0; have hfz31_1 := blk_frozen BK407.out 1; have hfz31_2 := blk_frozen BK407.out 2; have hfz31_3 := blk_frozen BK407.out 3; have p416 : 0 ≤ (x9_2 : Int) := of_decide_eq_true (by first | (with_reducible assumption) | assumption); have q416 : x9_2 < (l0_2.length : Int) := of_decide_eq_true (by first | (with_reducible assumption) | assumption); obtain ⟨ad416, e416, hx416_0, hx416_1, hx416_2, hx416_3, hx416_4, hx416_5, hx416_6⟩ := at_T56 HR0_2.out x9_2 p416 q416
          cases e416
          replace hx416_0 := (HB.out.cell (World.block_lt_of_cell? w _ hx416_0)).trans hx416_0; replace hx416_1 := (HB.out.cell (World.block_lt_of_cell? w _ hx416_1)).trans hx416_1; replace hx416_2 := (HB.out.cell (World.block_lt_of_cell? w _ hx416_2)).trans hx416_2; replace hx416_3 := (HB.out.cell (World.block_lt_of_cell? w _ hx416_3)).trans hx416_3; replace hx416_4 := (HB.out.cell (World.block_lt_of_cell? w _ hx416_4)).trans hx416_4; replace hx416_5 := (HB.out.cell (World.block_lt_of_cell? w _ hx416_5)).trans hx416_5; replace hx416_6 := (HB.out.cell (World.block_lt_of_cell? w _ hx416_6)).trans hx416_6; replace p416 := eq_true p416; replace q416 := eq_true q416
          try go_wp2_with (first | ((with_reducible refine gate_dst (N := 10) rfl ?_); (try (refine gate_guard (by rfl) ?_; dsimp only)); refine box_event ?hg (N := 10) ?hd (cs := #[.int .i64 0, .int .i64 0, .int .i64 0, .int .i64 0, .int .i64 0, .int .i64 0, .int .i64 0]) (t := 56) ?hr ?_; (case hd => rfl); (case hg => rfl); (case hr => first | (go_simp; done) | (go_simp; rfl)); intro gb417 hg w32 hbox hb; have n0_ := Aside0.mk (Kd.R_below (by (with_reducible repeat (first | apply Kd.rA_ | apply Kd.rN_ | apply Kd.rD_)); exact HO_7.out) hb); have n1_ := Aside0.mk (blk_below (g := gb407) (o := .cells #[.slice A0_0 l0_0.length c0_0, .slice A0_1 l0_1.length c0_1, .slice (some ad416) l0_2.length c0_2, .slice A0_3 l0_3.length c0_3] 41 (0, 0)) (by (with_reducible repeat (first | refine bN_ ?_ _ | refine bD_ ?_ | refine bA_ ?_ _)); exact BK407.out) hb); have n2_ := Aside0.mk (blk_below (g := gb408) (o := .cells #[.int .i64 a2_0, .int .i64 a2_1, .int .i64 a2_2, .int .i64 a2_3] 28 (0, 0)) (by (with_reducible repeat (first | refine bN_ ?_ _ | refine bD_ ?_ | refine bA_ ?_ _)); exact BK408.out) hb); have n3_ := Aside0.mk (below_step (by repeat (first | (with_reducible first | exact HB.out | apply lA_ | apply lN_ | apply lD_ | refine lS_ ?_ GE407.out | refine lS_ ?_ GE408.out) | exact HB.out)) hb); have n4_ := Aside0.mk (hbox); have n5_ := Aside0.mk ((by rw [hg]; exact (below_size (by repeat (first | (with_reducible first | exact HB.out | apply lA_ | apply lN_ | apply lD_ | refine lS_ ?_ GE407.out | refine lS_ ?_ GE408.out) | exact HB.out))) : w.heap.size ≤ gb417)); have n6_ := Aside0.mk ((by rw [hg]; exact (below_size (by repeat (first | (with_reducible first | exact HB.out | apply lA_ | apply lN_ | apply lD_ | refine lS_ ?_ GE407.out | refine lS_ ?_ GE408.out) | exact HB.out))) : w.heap.size ≤ gb417)); have n7_ := Aside0.mk ((by rw [hg]; exact Nat.ne_of_lt (blk_lt (g := gb407) (o := .cells #[.slice A0_0 l0_0.length c0_0, .slice A0_1 l0_1.length c0_1, .slice (some ad416) l0_2.length c0_2, .slice A0_3 l0_3.length c0_3] 41 (0, 0)) (by (with_reducible repeat (first | refine bN_ ?_ _ | refine bD_ ?_ | refine bA_ ?_ _)); exact BK407.out)) : gb407 ≠ gb417)); have n8_ := Aside0.mk ((by rw [hg]; exact Nat.ne_of_gt (blk_lt (g := gb407) (o := .cells #[.slice A0_0 l0_0.length c0_0, .slice A0_1 l0_1.length c0_1, .slice (some ad416) l0_2.length c0_2, .slice A0_3 l0_3.length c0_3] 41 (0, 0)) (by (with_reducible repeat (first | refine bN_ ?_ _ | refine bD_ ?_ | refine bA_ ?_ _)); exact BK407.out)) : gb417 ≠ gb407)); have n9_ := Aside0.mk ((by rw [hg]; exact Nat.ne_of_lt (blk_lt (g := gb408) (o := .cells #[.int .i64 a2_0, .int .i64 a2_1, .int .i64 a2_2, .int .i64 a2_3] 28 (0, 0)) (by (with_reducible repeat (first | refine bN_ ?_ _ | refine bD_ ?_ | refine bA_ ?_ _)); exact BK408.out)) : gb408 ≠ gb417)); have n10_ := Aside0.mk ((by rw [hg]; exact Nat.ne_of_gt (blk_lt (g := gb408) (o := .cells #[.int .i64 a2_0, .int .i64 a2_1, .int .i64 a2_2, .int .i64 a2_3] 28 (0, 0)) (by (with_reducible repeat (first | refine bN_ ?_ _ | refine bD_ ?_ | refine bA_ ?_ _)); exact BK408.out)) : gb417 ≠ gb408)); clear HO_7; clear BK407; clear BK408; clear HB; have HO_7 := n0_; have BK407 := n1_; have BK408 := n2_; have HB := n3_; have BK417 := n4_; have GW417 := n5_; have GE417 := n6_; have NB407_417 := n7_; have NB417_407 := n8_; have NB408_417 := n9_; have NB417_408 := n10_; clear n0_ n1_ n2_ n3_ n4_ n5_ n6_ n7_ n8_ n9_ n10_; clear hb hbox hg; have hnb33 := NB417_407.out; have hnc33 := NB407_417.out; have hnb34 := NB417_408.out; have hnc34 := NB408_417.out; have hcz35_0 : w32.cell? ⟨gb417, 0, none⟩ = some (.int .i64 0) := (blk_cell BK417.out 0).trans rfl; have hcz35_1 : w32.cell? ⟨gb417, 1, none⟩ = some (.int .i64 0) := (blk_cell BK417.out 1).trans rfl; have hcz35_2 : w32.cell? ⟨gb417, 2, none⟩ = some (.int .i64 0) := (blk_cell BK417.out 2).trans rfl; have hcz35_3 : w32.cell? ⟨gb417, 3, none⟩ = some (.int .i64 0) := (blk_cell BK417.out 3).trans rfl; have hcz35_4 : w32.cell? ⟨gb417, 4, none⟩ = some (.int .i64 0) := (blk_cell BK417.out 4).trans rfl; have hcz35_5 : w32.cell? ⟨gb417, 5, none⟩ = some (.int .i64 0) := (blk_cell BK417.out 5).trans rfl; have hcz35_6 : w32.cell? ⟨gb417, 6, none⟩ = some (.int .i64 0) := (blk_cell BK417.out 6).trans rfl; have hfz35_0 := blk_frozen BK417.out 0; have hfz35_1 := blk_frozen BK417.out 1; have hfz35_2 := blk_frozen BK417.out 2; have hfz35_3 := blk_frozen BK417.out 3; have hfz35_4 := blk_frozen BK417.out 4; have hfz35_5 := blk_frozen BK417.out 5; have hfz35_6 := blk_frozen BK417.out 6; have hcz36_0 : w32.cell? ⟨gb407, 0, none⟩ = some (.slice A0_0 l0_0.length c0_0) := (blk_cell BK407.out 0).trans rfl; have hcz36_1 : w32.cell? ⟨gb407, 1, none⟩ = some (.slice A0_1 l0_1.length c0_1) := (blk_cell BK407.out 1).trans rfl; have hcz36_2 : w32.cell? ⟨gb407, 2, none⟩ = some (.slice (some ad416) l0_2.length c0_2) := (blk_cell BK407.out 2).trans rfl; have hcz36_3 : w32.cell? ⟨gb407, 3, none⟩ = some (.slice A0_3 l0_3.length c0_3) := (blk_cell BK407.out 3).trans rfl; have hfz36_0 := blk_frozen BK407.out 0; have hfz36_1 := blk_frozen BK407.out 1; have hfz36_2 := blk_frozen BK407.out 2; have hfz36_3 := blk_frozen BK407.out 3) | ((with_reducible refine gate_callee (f := 22) rfl ?_); refine goesL_ (some 47) rfl rfl Try.func22 (by kernel_rfl) rfl #[.agg #[.slice A0_0 l0_0.length c0_0, .slice A0_1 l0_1.length c0_1, .slice (some ad416) l0_2.length c0_2, .slice A0_3 l0_3.length c0_3], .slice A1 l1.length c1, .int .i64 ((rd_T56 l0_2 x9_2).f0)] rfl (by (try simp only [List.map_toArray, List.map_cons, List.map_nil]); first | done | rfl | (simp only [List.length_drop, List.length_take]; rfl)) ?_; (with_reducible refine (closure_Run.calls _ _ l0_0 _ _ l0_1 _ _ l0_2 _ _ l0_3 _ _ l1 ((rd_T56 l0_2 x9_2).f0) t418 _ ?side1 ?side2 ?side3 ?side4 ?side5 ?side6 ?side7 ?side8 ?side9 ?side10 A25.out).mono ?_); (case side1 => exact Kd.C_below HR0_0.out (by repeat (first | (with_reducible first | exact HB.out | apply lA_ | apply lN_ | apply lD_ | refine lS_ ?_ GE407.out | refine lS_ ?_ GE408.out | refine lS_ ?_ GE417.out) | exact HB.out))); (case side2 => exact HC0_0.out); (case side3 => exact Kd.C_below HR0_1.out (by repeat (first | (with_reducible first | exact HB.out | apply lA_ | apply lN_ | apply lD_ | refine lS_ ?_ GE407.out | refine lS_ ?_ GE408.out | refine lS_ ?_ GE417.out) | exact HB.out))); (case side4 => exact HC0_1.out); (case side5 => exact Kd.C_below HR0_2.out (by repeat (first | (with_reducible first | exact HB.out | apply lA_ | apply lN_ | apply lD_ | refine lS_ ?_ GE407.out | refine lS_ ?_ GE408.out | refine lS_ ?_ GE417.out) | exact HB.out))); (case side6 => exact HC0_2.out); (case side7 => exact Kd.C_below HR0_3.out (by repeat (first | (with_reducible first | exact HB.out | apply lA_ | apply lN_ | apply lD_ | refine lS_ ?_ GE407.out | refine lS_ ?_ GE408.out | refine lS_ ?_ GE417.out) | exact HB.out))); (case side8 => exact HC0_3.out); (case side9 => exact Kd.C_below HR1.out (by repeat (first | (with_reducible first | exact HB.out | apply lA_ | apply lN_ | apply lD_ | refine lS_ ?_ GE407.out | refine lS_ ?_ GE408.out | refine lS_ ?_ GE417.out) | exact HB.out))); (case side10 => exact HC1.out); rintro e w37 ⟨rfl, hb⟩; refine ⟨_, rfl, ?_⟩; have n0_ := Aside0.mk (Kd.R_below (by (with_reducible repeat (first | apply Kd.rA_ | apply Kd.rN_ | apply Kd.rD_)); exact (Kd.R_mono (Kd.R_far (p := ⟨gb417, 6, none⟩) (Kd.R_far (p := ⟨gb417, 5, none⟩) (Kd.R_far (p := ⟨gb417, 4, none⟩) (Kd.R_far (p := ⟨gb417, 3, none⟩) (Kd.R_far (p := ⟨gb417, 2, none⟩) (Kd.R_far (p := ⟨gb417, 1, none⟩) (Kd.R_far (p := ⟨gb417, 0, none⟩) (Kd.R_types HO_7.out BK417.out (by decide)) (fun _ hk => hk.2) (.int .i64 ((rd_T56 l0_2 x9_2).f0))) (fun _ hk => hk.2) (.int .i64 ((rd_T56 l0_2 x9_2).f1))) (fun _ hk => hk.2) (.int .i64 ((rd_T56 l0_2 x9_2).f2))) (fun _ hk => hk.2) (.int .i64 ((rd_T56 l0_2 x9_2).f3))) (fun _ hk => hk.2) (.int .i64 ((rd_T56 l0_2 x9_2).f4))) (fun _ hk => hk.2) (.int .i64 ((rd_T56 l0_2 x9_2).f5))) (fun _ hk => hk.2) (.int .i64 ((rd_T56 l0_2 x9_2).f6))) (fun _ h_ => h_.1))) hb); have n1_ := Aside0.mk (blk_below (g := gb407) (o := .cells #[.slice A0_0 l0_0.length c0_0, .slice A0_1 l0_1.length c0_1, .slice (some ad416) l0_2.length c0_2, .slice A0_3 l0_3.length c0_3] 41 (0, 0)) (by (with_reducible repeat (first | refine bN_ ?_ _ | refine bD_ ?_ | refine bA_ ?_ _)); refine blk_far ?_ NB407_417.out _; (with_reducible repeat (first | refine bN_ ?_ _ | refine bD_ ?_ | refine bA_ ?_ _)); refine blk_far ?_ NB407_417.out _; (with_reducible repeat (first | refine bN_ ?_ _ | refine bD_ ?_ | refine bA_ ?_ _)); refine blk_far ?_ NB407_417.out _; (with_reducible repeat (first | refine bN_ ?_ _ | refine bD_ ?_ | refine bA_ ?_ _)); refine blk_far ?_ NB407_417.out _; (with_reducible repeat (first | refine bN_ ?_ _ | refine bD_ ?_ | refine bA_ ?_ _)); refine blk_far ?_ NB407_417.out _; (with_reducible repeat (first | refine bN_ ?_ _ | refine bD_ ?_ | refine bA_ ?_ _)); refine blk_far ?_ NB407_417.out _; (with_reducible repeat (first | refine bN_ ?_ _ | refine bD_ ?_ | refine bA_ ?_ _)); refine blk_far ?_ NB407_417.out _; (with_reducible repeat (first | refine bN_ ?_ _ | refine bD_ ?_ | refine bA_ ?_ _)); exact BK407.out) hb); have n2_ := Aside0.mk (blk_below (g := gb408) (o := .cells #[.int .i64 a2_0, .int .i64 a2_1, .int .i64 a2_2, .int .i64 a2_3] 28 (0, 0)) (by (with_reducible repeat (first | refine bN_ ?_ _ | refine bD_ ?_ | refine bA_ ?_ _)); refine blk_far ?_ NB408_417.out _; (with_reducible repeat (first | refine bN_ ?_ _ | refine bD_ ?_ | refine bA_ ?_ _)); refine blk_far ?_ NB408_417.out _; (with_reducible repeat (first | refine bN_ ?_ _ | refine bD_ ?_ | refine bA_ ?_ _)); refine blk_far ?_ NB408_417.out _; (with_reducible repeat (first | refine bN_ ?_ _ | refine bD_ ?_ | refine bA_ ?_ _)); refine blk_far ?_ NB408_417.out _; (with_reducible repeat (first | refine bN_ ?_ _ | refine bD_ ?_ | refine bA_ ?_ _)); refine blk_far ?_ NB408_417.out _; (with_reducible repeat (first | refine bN_ ?_ _ | refine bD_ ?_ | refine bA_ ?_ _)); refine blk_far ?_ NB408_417.out _; (with_reducible repeat (first | refine bN_ ?_ _ | refine bD_ ?_ | refine bA_ ?_ _)); refine blk_far ?_ NB408_417.out _; (with_reducible repeat (first | refine bN_ ?_ _ | refine bD_ ?_ | refine bA_ ?_ _)); exact BK408.out) hb); have n3_ := Aside0.mk (blk_below (g := gb417) (o := .cells #[.int .i64 ((rd_T56 l0_2 x9_2).f0), .int .i64 ((rd_T56 l0_2 x9_2).f1), .int .i64 ((rd_T56 l0_2 x9_2).f2), .int .i64 ((rd_T56 l0_2 x9_2).f3), .int .i64 ((rd_T56 l0_2 x9_2).f4), .int .i64 ((rd_T56 l0_2 x9_2).f5), .int .i64 ((rd_T56 l0_2 x9_2).f6)] 56 (0, 0)) (by (with_reducible repeat (first | refine bN_ ?_ _ | refine bD_ ?_ | refine bA_ ?_ _)); refine blk_put (cs := #[.int .i64 ((rd_T56 l0_2 x9_2).f0), .int .i64 ((rd_T56 l0_2 x9_2).f1), .int .i64 ((rd_T56 l0_2 x9_2).f2), .int .i64 ((rd_T56 l0_2 x9_2).f3), .int .i64 ((rd_T56 l0_2 x9_2).f4), .int .i64 ((rd_T56 l0_2 x9_2).f5), .int .i64 0]) ?_ 6 _ rfl; (with_reducible repeat (first | refine bN_ ?_ _ | refine bD_ ?_ | refine bA_ ?_ _)); refine blk_put (cs := #[.int .i64 ((rd_T56 l0_2 x9_2).f0), .int .i64 ((rd_T56 l0_2 x9_2).f1), .int .i64 ((rd_T56 l0_2 x9_2).f2), .int .i64 ((rd_T56 l0_2 x9_2).f3), .int .i64 ((rd_T56 l0_2 x9_2).f4), .int .i64 0, .int .i64 0]) ?_ 5 _ rfl; (with_reducible repeat (first | refine bN_ ?_ _ | refine bD_ ?_ | refine bA_ ?_ _)); refine blk_put (cs := #[.int .i64 ((rd_T56 l0_2 x9_2).f0), .int .i64 ((rd_T56 l0_2 x9_2).f1), .int .i64 ((rd_T56 l0_2 x9_2).f2), .int .i64 ((rd_T56 l0_2 x9_2).f3), .int .i64 0, .int .i64 0, .int .i64 0]) ?_ 4 _ rfl; (with_reducible repeat (first | refine bN_ ?_ _ | refine bD_ ?_ | refine bA_ ?_ _)); refine blk_put (cs := #[.int .i64 ((rd_T56 l0_2 x9_2).f0), .int .i64 ((rd_T56 l0_2 x9_2).f1), .int .i64 ((rd_T56 l0_2 x9_2).f2), .int .i64 0, .int .i64 0, .int .i64 0, .int .i64 0]) ?_ 3 _ rfl; (with_reducible repeat (first | refine bN_ ?_ _ | refine bD_ ?_ | refine bA_ ?_ _)); refine blk_put (cs := #[.int .i64 ((rd_T56 l0_2 x9_2).f0), .int .i64 ((rd_T56 l0_2 x9_2).f1), .int .i64 0, .int .i64 0, .int .i64 0, .int .i64 0, .int .i64 0]) ?_ 2 _ rfl; (with_reducible repeat (first | refine bN_ ?_ _ | refine bD_ ?_ | refine bA_ ?_ _)); refine blk_put (cs := #[.int .i64 ((rd_T56 l0_2 x9_2).f0), .int .i64 0, .int .i64 0, .int .i64 0, .int .i64 0, .int .i64 0, .int .i64 0]) ?_ 1 _ rfl; (with_reducible repeat (first | refine bN_ ?_ _ | refine bD_ ?_ | refine bA_ ?_ _)); refine blk_put (cs := #[.int .i64 0, .int .i64 0, .int .i64 0, .int .i64 0, .int .i64 0, .int .i64 0, .int .i64 0]) ?_ 0 _ rfl; (with_reducible repeat (first | refine bN_ ?_ _ | refine bD_ ?_ | refine bA_ ?_ _)); exact BK417.out) hb); have n4_ := Aside0.mk (below_step (by repeat (first | (with_reducible first | exact HB.out | apply lA_ | apply lN_ | apply lD_ | refine lS_ ?_ GE407.out | refine lS_ ?_ GE408.out | refine lS_ ?_ GE417.out) | exact HB.out)) hb); clear HO_7; clear BK407; clear BK408; clear BK417; clear HB; have HO_7 := n0_; have BK407 := n1_; have BK408 := n2_; have BK417 := n3_; have HB := n4_; clear n0_ n1_ n2_ n3_ n4_; (try clear hb); (try clear hb2); (try clear hk); (try clear hi)))
          have n0_ := Aside0.mk (Kd.rD_ HO_7.out); have n1_ := Aside0.mk (bD_ BK407.out); have n2_ := Aside0.mk (bD_ BK408.out); have n3_ := Aside0.mk (bD_ BK417.out); have n4_ := Aside0.mk (lD_ HB.out); clear HO_7; clear BK407; clear BK408; clear BK417; clear HB; have HO_7 := n0_; have BK407 := n1_; have BK408 := n2_; have BK417 := n3_; have HB := n4_; clear n0_ n1_ n2_ n3_ n4_; refine start_ (n := 14) (S := fun w' => w'.cell? ⟨gb417, 0, none⟩ = some (.int .i64 ((rd_T56 l0_2 x9_2).f0)) ∧ w'.cell? ⟨gb417, 1, none⟩ = some (.int .i64 ((rd_T56 l0_2 x9_2).f1)) ∧ w'.cell? ⟨gb417, 2, none⟩ = some (.int .i64 ((rd_T56 l0_2 x9_2).f2)) ∧ w'.cell? ⟨gb417, 3, none⟩ = some (.int .i64 ((rd_T56 l0_2 x9_2).f3)) ∧ w'.cell? ⟨gb417, 4, none⟩ = some (.int .i64 ((rd_T56 l0_2 x9_2).f4)) ∧ w'.cell? ⟨gb417, 5, none⟩ = some (.int .i64 ((rd_T56 l0_2 x9_2).f5)) ∧ w'.cell? ⟨gb417, 6, none⟩ = some (.int .i64 ((rd_T56 l0_2 x9_2).f6))) (ds := []) #[false, false, false, false, false, false, false, false, false, false, false, false, false, false] (by kernel_rfl) rfl rfl ⟨(blk_cell BK417.out 0).trans rfl, (blk_cell BK417.out 1).trans rfl, (blk_cell BK417.out 2).trans rfl, (blk_cell BK417.out 3).trans rfl, (blk_cell BK417.out 4).trans rfl, (blk_cell BK417.out 5).trans rfl, (blk_cell BK417.out 6).trans rfl⟩ (fun hHeld => ?_); refine with_tabW skiarealaw52_ClosureTargets.tab11 skiarealaw52_ClosureTargets.bits11 (fun HT_ HW_ => ?_)
          generalize w37.drew = w38 at HO_7 BK407 BK408 BK417 HB hHeld ⊢
          refine pure_ (i := 0) (N := some 48) (v := ?_) (a' := ?_) #[true, false, false, false, false, false, false, false, false, false, false, false, false, false] rfl rfl (any_of HT_.out (by kernel_rfl)) (fun _ _ _ h => h) (Or.inl ⟨by rfl, ?_⟩) ?_ ?_
          rotate_left
          ·
           intro w'; go_simp
           with_reducible rfl
          rotate_left
          ·
           simp only [Act.put, List.setIfInBounds_toArray, List.set_cons_zero, List.set_cons_succ, i64_w, i32_w]; rfl
          refine pure_ (i := 1) (N := some 49) (v := ?_) (a' := ?_) #[true, true, false, false, false, false, false, false, false, false, false, false, false, false] rfl rfl (any_of HT_.out (by kernel_rfl)) (fun _ _ _ h => h) (Or.inl ⟨by rfl, ?_⟩) ?_ ?_
          rotate_left
          ·
           intro w'; go_simp
           with_reducible rfl
          rotate_left
          ·
           simp only [Act.put, List.setIfInBounds_toArray, List.set_cons_zero, List.set_cons_succ, i64_w, i32_w]; rfl
          refine pure_ (i := 2) (N := some 50) (v := ?_) (a' := ?_) #[true, true, true, false, false, false, false, false, false, false, false, false, false, false] rfl rfl (any_of HT_.out (by kernel_rfl)) (fun _ _ _ h => h) (Or.inl ⟨by rfl, ?_⟩) ?_ ?_
          rotate_left
          ·
           intro w'; go_simp
           with_reducible rfl
          rotate_left
          ·
           simp only [Act.put, List.setIfInBounds_toArray, List.set_cons_zero, List.set_cons_succ, i64_w, i32_w]; rfl
          refine pure_ (i := 6) (N := some 54) (v := ?_) (a' := ?_) #[true, true, true, false, false, false, true, false, false, false, false, false, false, false] rfl rfl (any_of HT_.out (by kernel_rfl)) (fun _ _ _ h => h) (Or.inl ⟨by rfl, ?_⟩) ?_ ?_
          rotate_left
          ·
           intro w'; go_simp
           with_reducible rfl
          rotate_left
          ·
           simp only [Act.put, List.setIfInBounds_toArray, List.set_cons_zero, List.set_cons_succ, i64_w, i32_w]; rfl
          refine pure_ (i := 7) (N := some 55) (v := ?_) (a' := ?_) #[true, true, true, false, false, false, true, true, false, false, false, false, false, false] rfl rfl (any_of HT_.out (by kernel_rfl)) (fun _ _ _ h => h) (Or.inl ⟨by rfl, ?_⟩) ?_ ?_
          rotate_left
          ·
           intro w'; go_simp
           with_reducible rfl
          rotate_left
          ·
           simp only [Act.put, List.setIfInBounds_toArray, List.set_cons_zero, List.set_cons_succ, i64_w, i32_w]; rfl
          refine take_ (i := 3) (N := some 51) (v := ?_) (a' := ?_) #[true, true, true, true, false, false, true, true, false, false, false, false, false, false] rfl rfl (take_ofW HT_.out HW_.out (by kernel_rfl)) (fun _ _ _ h => h) (Or.inl ⟨by rfl, ?_⟩) hHeld ?_ ?_
          rotate_left
          ·
           rintro w' ⟨s0, s1, s2, s3, s4, s5, s6⟩; go_simp
           with_reducible rfl
          rotate_left
          ·
           simp only [Act.put, List.setIfInBounds_toArray, List.set_cons_zero, List.set_cons_succ, i64_w, i32_w]; rfl
          refine take_ (i := 8) (N := some 56) (v := ?_) (a' := ?_) #[true, true, true, true, false, false, true, true, true, false, false, false, false, false] rfl rfl (take_ofW HT_.out HW_.out (by kernel_rfl)) (fun _ _ _ h => h) (Or.inl ⟨by rfl, ?_⟩) hHeld ?_ ?_
          rotate_left
          ·
           rintro w' ⟨s0, s1, s2, s3, s4, s5, s6⟩; go_simp
           with_reducible rfl
          rotate_left
          ·
           simp only [Act.put, List.setIfInBounds_toArray, List.set_cons_zero, List.set_cons_succ, i64_w, i32_w]; rfl
          refine one_ (i := 4) (N := some 52) #[true, true, true, true, true, false, true, true, true, false, false, false, false, false] rfl rfl (one_of HT_.out (by kernel_rfl)) (by decide) (fun K hK => ?_)
          refine goes_ Try.func20 (by kernel_rfl) rfl #[.slice A1 l1.length c1, .int .i64 1, .int .i64 ((rd_T56 l0_2 x9_2).f0)] (by rfl) rfl rfl (by (try simp only [List.map_toArray, List.map_cons, List.map_nil]); first | done | rfl | (simp only [List.length_drop, List.length_take]; rfl)) ?_
          with_reducible refine (closure_Of.calls k2 _ _ l1 1 ((rd_T56 l0_2 x9_2).f0) t419 _ ?side1 ?side2 A26.out).mono ?_
          (case side1 => repeat (first | exact (Kd.C_below HR1.out HB.out) | (with_reducible refine Kd.cA_ ?_ _) | (with_reducible refine Kd.cN_ ?_ _) | (with_reducible refine Kd.cD_ ?_))); (case side2 => exact HC1.out); rintro e w39 ⟨v420, rfl, ho0, hb⟩; refine ⟨_, rfl, ?_⟩
          have n0_ := Aside0.mk (Kd.R_below (by (with_reducible repeat (first | apply Kd.rA_ | apply Kd.rN_ | apply Kd.rD_)); exact HO_7.out) hb); have n1_ := Aside0.mk (Kd.R_lower ho0 (below_size (by repeat (first | (with_reducible first | exact HB.out | apply lA_ | apply lN_ | apply lD_ | refine lS_ ?_ GE407.out | refine lS_ ?_ GE408.out | refine lS_ ?_ GE417.out) | exact HB.out)))); have n2_ := Aside0.mk (blk_below (g := gb407) (o := .cells #[.slice A0_0 l0_0.length c0_0, .slice A0_1 l0_1.length c0_1, .slice (some ad416) l0_2.length c0_2, .slice A0_3 l0_3.length c0_3] 41 (0, 0)) (by (with_reducible repeat (first | refine bN_ ?_ _ | refine bD_ ?_ | refine bA_ ?_ _)); exact BK407.out) hb); have n3_ := Aside0.mk (blk_below (g := gb408) (o := .cells #[.int .i64 a2_0, .int .i64 a2_1, .int .i64 a2_2, .int .i64 a2_3] 28 (0, 0)) (by (with_reducible repeat (first | refine bN_ ?_ _ | refine bD_ ?_ | refine bA_ ?_ _)); exact BK408.out) hb); have n4_ := Aside0.mk (blk_below (g := gb417) (o := .cells #[.int .i64 ((rd_T56 l0_2 x9_2).f0), .int .i64 ((rd_T56 l0_2 x9_2).f1), .int .i64 ((rd_T56 l0_2 x9_2).f2), .int .i64 ((rd_T56 l0_2 x9_2).f3), .int .i64 ((rd_T56 l0_2 x9_2).f4), .int .i64 ((rd_T56 l0_2 x9_2).f5), .int .i64 ((rd_T56 l0_2 x9_2).f6)] 56 (0, 0)) (by (with_reducible repeat (first | refine bN_ ?_ _ | refine bD_ ?_ | refine bA_ ?_ _)); exact BK417.out) hb); have n5_ := Aside0.mk (below_step (by repeat (first | (with_reducible first | exact HB.out | apply lA_ | apply lN_ | apply lD_ | refine lS_ ?_ GE407.out | refine lS_ ?_ GE408.out | refine lS_ ?_ GE417.out) | exact HB.out)) hb); clear HO_7; clear BK407; clear BK408; clear BK417; clear HB; have HO_7 := n0_; have HO421 := n1_; have BK407 := n2_; have BK408 := n3_; have BK417 := n4_; have HB := n5_; clear n0_ n1_ n2_ n3_ n4_ n5_; (try clear hb); (try clear hb2); (try clear hk); (try clear hi); (try clear ho0); obtain ⟨Ao40, co40, eo40⟩ := Kd.R_slice HO421.out; (first | subst eo40 | (injection eo40 with f1_ f2_ f3_; have f4_ := f1_.symm; have f5_ := f3_.symm; clear f1_ f2_ f3_; subst f4_; subst f5_))
          refine hK.out _ _ ⟨(blk_cell BK417.out 0).trans rfl, (blk_cell BK417.out 1).trans rfl, (blk_cell BK417.out 2).trans rfl, (blk_cell BK417.out 3).trans rfl, (blk_cell BK417.out 4).trans rfl, (blk_cell BK417.out 5).trans rfl, (blk_cell BK417.out 6).trans rfl⟩ (fun hHeld => ?_)
          clear hK K; refine norm_ (a' := ?_) ?_ ?_
          rotate_left
          ·
           show Act.put _ (some 52) _ = _
           simp only [Act.put, List.setIfInBounds_toArray, List.set_cons_zero, List.set_cons_succ, i64_w, i32_w]; rfl
          refine pure_ (i := 5) (N := some 53) (v := ?_) (a' := ?_) #[true, true, true, true, true, true, true, true, true, false, false, false, false, false] rfl rfl (any_of HT_.out (by kernel_rfl)) (fun _ _ _ h => h) (Or.inl ⟨by rfl, ?_⟩) ?_ ?_
          rotate_left
          ·
           intro w'; go_simp
           with_reducible rfl
          rotate_left
          ·
           simp only [Act.put, List.setIfInBounds_toArray, List.set_cons_zero, List.set_cons_succ, i64_w, i32_w]; rfl
          refine one_ (i := 9) (N := some 57) #[true, true, true, true, true, true, true, true, true, true, false, false, false, false] rfl rfl (one_of HT_.out (by kernel_rfl)) (by decide) (fun K hK => ?_)
          refine goes_ Try.func20 (by kernel_rfl) rfl #[.slice A1 l1.length c1, .int .i64 3, .int .i64 ((rd_T56 l0_2 x9_2).f5)] (by rfl) rfl rfl (by (try simp only [List.map_toArray, List.map_cons, List.map_nil]); first | done | rfl | (simp only [List.length_drop, List.length_take]; rfl)) ?_
          with_reducible refine (closure_Of.calls k2 _ _ l1 3 ((rd_T56 l0_2 x9_2).f5) t422 _ ?side1 ?side2 A27.out).mono ?_
          (case side1 => repeat (first | exact (Kd.C_below HR1.out HB.out) | (with_reducible refine Kd.cA_ ?_ _) | (with_reducible refine Kd.cN_ ?_ _) | (with_reducible refine Kd.cD_ ?_))); (case side2 => exact HC1.out); rintro e w41 ⟨v423, rfl, ho0, hb⟩; refine ⟨_, rfl, ?_⟩
          have n0_ := Aside0.mk (Kd.R_below (by (with_reducible repeat (first | apply Kd.rA_ | apply Kd.rN_ | apply Kd.rD_)); exact HO_7.out) hb); have n1_ := Aside0.mk (Kd.R_elder' (by (with_reducible repeat (first | apply Kd.rA_ | apply Kd.rN_ | apply Kd.rD_)); exact HO421.out) (Kd.R_base ho0) hb); have n2_ := Aside0.mk (Kd.R_lower (Kd.R_new' ho0 (Kd.R_lt (by (with_reducible repeat (first | apply Kd.rA_ | apply Kd.rN_ | apply Kd.rD_)); exact HO421.out))) (below_size (by repeat (first | (with_reducible first | exact HB.out | apply lA_ | apply lN_ | apply lD_ | refine lS_ ?_ GE407.out | refine lS_ ?_ GE408.out | refine lS_ ?_ GE417.out) | exact HB.out)))); have n3_ := Aside0.mk (blk_below (g := gb407) (o := .cells #[.slice A0_0 l0_0.length c0_0, .slice A0_1 l0_1.length c0_1, .slice (some ad416) l0_2.length c0_2, .slice A0_3 l0_3.length c0_3] 41 (0, 0)) (by (with_reducible repeat (first | refine bN_ ?_ _ | refine bD_ ?_ | refine bA_ ?_ _)); exact BK407.out) hb); have n4_ := Aside0.mk (blk_below (g := gb408) (o := .cells #[.int .i64 a2_0, .int .i64 a2_1, .int .i64 a2_2, .int .i64 a2_3] 28 (0, 0)) (by (with_reducible repeat (first | refine bN_ ?_ _ | refine bD_ ?_ | refine bA_ ?_ _)); exact BK408.out) hb); have n5_ := Aside0.mk (blk_below (g := gb417) (o := .cells #[.int .i64 ((rd_T56 l0_2 x9_2).f0), .int .i64 ((rd_T56 l0_2 x9_2).f1), .int .i64 ((rd_T56 l0_2 x9_2).f2), .int .i64 ((rd_T56 l0_2 x9_2).f3), .int .i64 ((rd_T56 l0_2 x9_2).f4), .int .i64 ((rd_T56 l0_2 x9_2).f5), .int .i64 ((rd_T56 l0_2 x9_2).f6)] 56 (0, 0)) (by (with_reducible repeat (first | refine bN_ ?_ _ | refine bD_ ?_ | refine bA_ ?_ _)); exact BK417.out) hb); have n6_ := Aside0.mk (below_step (by repeat (first | (with_reducible first | exact HB.out | apply lA_ | apply lN_ | apply lD_ | refine lS_ ?_ GE407.out | refine lS_ ?_ GE408.out | refine lS_ ?_ GE417.out) | exact HB.out)) hb); clear HO_7; clear HO421; clear BK407; clear BK408; clear BK417; clear HB; have HO_7 := n0_; have HO421 := n1_; have HO424 := n2_; have BK407 := n3_; have BK408 := n4_; have BK417 := n5_; have HB := n6_; clear n0_ n1_ n2_ n3_ n4_ n5_ n6_; (try clear hb); (try clear hb2); (try clear hk); (try clear hi); (try clear ho0); obtain ⟨Ao42, co42, eo42⟩ := Kd.R_slice HO424.out; (first | subst eo42 | (injection eo42 with f1_ f2_ f3_; have f4_ := f1_.symm; have f5_ := f3_.symm; clear f1_ f2_ f3_; subst f4_; subst f5_))
          refine hK.out _ _ ⟨(blk_cell BK417.out 0).trans rfl, (blk_cell BK417.out 1).trans rfl, (blk_cell BK417.out 2).trans rfl, (blk_cell BK417.out 3).trans rfl, (blk_cell BK417.out 4).trans rfl, (blk_cell BK417.out 5).trans rfl, (blk_cell BK417.out 6).trans rfl⟩ (fun hHeld => ?_)
          clear hK K; refine norm_ (a' := ?_) ?_ ?_
          rotate_left
          ·
           show Act.put _ (some 57) _ = _
           simp only [Act.put, List.setIfInBounds_toArray, List.set_cons_zero, List.set_cons_succ, i64_w, i32_w]; rfl
          refine pure_ (i := 10) (N := some 58) (v := ?_) (a' := ?_) #[true, true, true, true, true, true, true, true, true, true, true, false, false, false] rfl rfl (any_of HT_.out (by kernel_rfl)) (fun _ _ _ h => h) (Or.inl ⟨by rfl, ?_⟩) ?_ ?_
          rotate_left
          ·
           intro w'; go_simp
           with_reducible rfl
          rotate_left
          ·
           simp only [Act.put, List.setIfInBounds_toArray, List.set_cons_zero, List.set_cons_succ, i64_w, i32_w]; rfl
          refine pure_ (i := 11) (N := some 59) (v := ?_) (a' := ?_) #[true, true, true, true, true, true, true, true, true, true, true, true, false, false] rfl rfl (any_of HT_.out (by kernel_rfl)) (fun _ _ _ h => h) (Or.inl ⟨by rfl, ?_⟩) ?_ ?_
          rotate_left
          ·
           intro w'; go_simp
           with_reducible rfl
          rotate_left
          ·
           simp only [Act.put, List.setIfInBounds_toArray, List.set_cons_zero, List.set_cons_succ, i64_w, i32_w]; rfl
          refine pure_ (i := 12) (N := some 60) (v := ?_) (a' := ?_) #[true, true, true, true, true, true, true, true, true, true, true, true, true, false] rfl rfl (any_of HT_.out (by kernel_rfl)) (fun _ _ _ h => h) (Or.inl ⟨by rfl, ?_⟩) ?_ ?_
          rotate_left
          ·
           intro w'; go_simp
           with_reducible rfl
          rotate_left
          ·
           simp only [Act.put, List.setIfInBounds_toArray, List.set_cons_zero, List.set_cons_succ, i64_w, i32_w]; rfl
          refine pure_ (i := 13) (N := some 61) (v := ?_) (a' := ?_) #[true, true, true, true, true, true, true, true, true, true, true, true, true, true] rfl rfl (any_of HT_.out (by kernel_rfl)) (fun _ _ _ h => h) (Or.inl ⟨by rfl, ?_⟩) ?_ ?_
          rotate_left
          ·
           intro w'; go_simp
           with_reducible rfl
          rotate_left
          ·
           simp only [Act.put, List.setIfInBounds_toArray, List.set_cons_zero, List.set_cons_succ, i64_w, i32_w]; rfl
          refine done_ (done_of HT_.out (by kernel_rfl)) ?_
          go_upto_region 13 with (fail)
          go_cut [12] (fun v12 wc => ∃ (kq : Nat) (x12_28 : Bool), v12 = .bool x12_28 ∧ Aside0 (skiarealaw52_ClosureTargets.j2 kq l1 t412 t415 x9_2 t418 x12_28 l0_0 l0_1 l0_2 l0_3 a2_0 a2_1 a2_2 a2_3 ((rd_T56 l0_2 x9_2).f0) ((rd_T56 l0_2 x9_2).f1) ((rd_T56 l0_2 x9_2).f2) ((rd_T56 l0_2 x9_2).f3) ((rd_T56 l0_2 x9_2).f4) ((rd_T56 l0_2 x9_2).f5) ((rd_T56 l0_2 x9_2).f6) = some r) ∧ Aside0 (kq ≤ k2) ∧ Aside0 (Kd.R k28 28 wc w.heap.size (fun k_ => k_ ≠ gb408) v413 t412) ∧ Aside0 (wc.heap[gb407]? = some (.cells #[(.slice A0_0 l0_0.length c0_0), (.slice A0_1 l0_1.length c0_1), (.slice (some ad416) l0_2.length c0_2), (.slice A0_3 l0_3.length c0_3)] 41 (0, 0))) ∧ Aside0 (wc.heap[gb408]? = some (.cells #[.int .i64 a2_0, .int .i64 a2_1, .int .i64 a2_2, .int .i64 a2_3] 28 (0, 0))) ∧ Aside0 (wc.heap[gb417]? = some (.cells #[.int .i64 ((rd_T56 l0_2 x9_2).f0), .int .i64 ((rd_T56 l0_2 x9_2).f1), .int .i64 ((rd_T56 l0_2 x9_2).f2), .int .i64 ((rd_T56 l0_2 x9_2).f3), .int .i64 ((rd_T56 l0_2 x9_2).f4), .int .i64 ((rd_T56 l0_2 x9_2).f5), .int .i64 ((rd_T56 l0_2 x9_2).f6)] 56 (0, 0))) ∧ Aside0 (Below w.heap.size w wc))
          case first =>
           have H := HC29.out; clear HC29; by_cases c43 : a2_0 = 1
           ·
            rw [if_pos c43] at H
            have c43b0 : (a2_0 == 1) = true := beq_iff_eq.mpr c43; have c43b1 : (a2_0 != 1) = false := bne_eq_false_iff_eq.mpr c43; clear c43; (first | rw [c43b0] | (simp only [i64_w, i32_w]; rw [c43b0]) | skip)
            by_cases c44 : a2_1 = ((rd_T56 l0_2 x9_2).f0)
            ·
             rw [if_pos c44] at H
             have c44b0 : (a2_1 == ((rd_T56 l0_2 x9_2).f0)) = true := beq_iff_eq.mpr c44; have c44b1 : (a2_1 != ((rd_T56 l0_2 x9_2).f0)) = false := bne_eq_false_iff_eq.mpr c44; clear c44; have H' := Aside0.mk H; clear H; have hnb45 := NB408_407.out; have hnc45 := NB407_408.out; have hnb46 := NB408_417.out; have hnc46 := NB417_408.out; have hcz47_0 : w41.cell? ⟨gb408, 0, none⟩ = some (.int .i64 a2_0) := (blk_cell BK408.out 0).trans rfl; have hcz47_1 : w41.cell? ⟨gb408, 1, none⟩ = some (.int .i64 a2_1) := (blk_cell BK408.out 1).trans rfl; have hcz47_2 : w41.cell? ⟨gb408, 2, none⟩ = some (.int .i64 a2_2) := (blk_cell BK408.out 2).trans rfl; have hcz47_3 : w41.cell? ⟨gb408, 3, none⟩ = some (.int .i64 a2_3) := (blk_cell BK408.out 3).trans rfl; have hfz47_0 := blk_frozen BK408.out 0; have hfz47_1 := blk_frozen BK408.out 1; have hfz47_2 := blk_frozen BK408.out 2; have hfz47_3 := blk_frozen BK408.out 3; have hnb48 := NB417_407.out; have hnc48 := NB407_417.out; have hcz49_0 : w41.cell? ⟨gb417, 0, none⟩ = some (.int .i64 ((rd_T56 l0_2 x9_2).f0)) := (blk_cell BK417.out 0).trans rfl; have hcz49_1 : w41.cell? ⟨gb417, 1, none⟩ = some (.int .i64 ((rd_T56 l0_2 x9_2).f1)) := (blk_cell BK417.out 1).trans rfl; have hcz49_2 : w41.cell? ⟨gb417, 2, none⟩ = some (.int .i64 ((rd_T56 l0_2 x9_2).f2)) := (blk_cell BK417.out 2).trans rfl; have hcz49_3 : w41.cell? ⟨gb417, 3, none⟩ = some (.int .i64 ((rd_T56 l0_2 x9_2).f3)) := (blk_cell BK417.out 3).trans rfl; have hcz49_4 : w41.cell? ⟨gb417, 4, none⟩ = some (.int .i64 ((rd_T56 l0_2 x9_2).f4)) := (blk_cell BK417.out 4).trans rfl; have hcz49_5 : w41.cell? ⟨gb417, 5, none⟩ = some (.int .i64 ((rd_T56 l0_2 x9_2).f5)) := (blk_cell BK417.out 5).trans rfl; have hcz49_6 : w41.cell? ⟨gb417, 6, none⟩ = some (.int .i64 ((rd_T56 l0_2 x9_2).f6)) := (blk_cell BK417.out 6).trans rfl; have hfz49_0 := blk_frozen BK417.out 0; have hfz49_1 := blk_frozen BK417.out 1; have hfz49_2 := blk_frozen BK417.out 2; have hfz49_3 := blk_frozen BK417.out 3; have hfz49_4 := blk_frozen BK417.out 4; have hfz49_5 := blk_frozen BK417.out 5; have hfz49_6 := blk_frozen BK417.out 6; go_wp2
             go_meet
             case rel => exact ⟨_, (true), (by first | rfl | (simp; done) | (simp [*]; done)), H', ⟨by have := HJ5.out; have := HK2.out; first | omega | exact Nat.le_refl _⟩, ⟨by (with_reducible repeat (first | apply Kd.rA_ | apply Kd.rN_ | apply Kd.rD_)); exact HO_7.out⟩, ⟨by (with_reducible repeat (first | refine bN_ ?_ _ | refine bD_ ?_ | refine bA_ ?_ _)); exact BK407.out⟩, ⟨by (with_reducible repeat (first | refine bN_ ?_ _ | refine bD_ ?_ | refine bA_ ?_ _)); exact BK408.out⟩, ⟨by (with_reducible repeat (first | refine bN_ ?_ _ | refine bD_ ?_ | refine bA_ ?_ _)); exact BK417.out⟩, ⟨by repeat (first | (with_reducible first | exact HB.out | apply lA_ | apply lN_ | apply lD_ | refine lS_ ?_ GE407.out | refine lS_ ?_ GE408.out | refine lS_ ?_ GE417.out) | exact HB.out)⟩⟩
            ·
             rw [if_neg c44] at H
             have c44b0 : (a2_1 == ((rd_T56 l0_2 x9_2).f0)) = false := beq_eq_false_iff_ne.mpr c44; have c44b1 : (a2_1 != ((rd_T56 l0_2 x9_2).f0)) = true := bne_iff_ne.mpr c44; by_cases c50 : a2_0 = 3
             ·
              rw [if_pos c50] at H
              have c50b0 : (a2_0 == 3) = true := beq_iff_eq.mpr c50; have c50b1 : (a2_0 != 3) = false := bne_eq_false_iff_eq.mpr c50; clear c50; have H' := Aside0.mk H; clear H; have hnb51 := NB408_407.out; have hnc51 := NB407_408.out; have hnb52 := NB408_417.out; have hnc52 := NB417_408.out; have hcz53_0 : w41.cell? ⟨gb408, 0, none⟩ = some (.int .i64 a2_0) := (blk_cell BK408.out 0).trans rfl; have hcz53_1 : w41.cell? ⟨gb408, 1, none⟩ = some (.int .i64 a2_1) := (blk_cell BK408.out 1).trans rfl; have hcz53_2 : w41.cell? ⟨gb408, 2, none⟩ = some (.int .i64 a2_2) := (blk_cell BK408.out 2).trans rfl; have hcz53_3 : w41.cell? ⟨gb408, 3, none⟩ = some (.int .i64 a2_3) := (blk_cell BK408.out 3).trans rfl; have hfz53_0 := blk_frozen BK408.out 0; have hfz53_1 := blk_frozen BK408.out 1; have hfz53_2 := blk_frozen BK408.out 2; have hfz53_3 := blk_frozen BK408.out 3; have hnb54 := NB417_407.out; have hnc54 := NB407_417.out; have hcz55_0 : w41.cell? ⟨gb417, 0, none⟩ = some (.int .i64 ((rd_T56 l0_2 x9_2).f0)) := (blk_cell BK417.out 0).trans rfl; have hcz55_1 : w41.cell? ⟨gb417, 1, none⟩ = some (.int .i64 ((rd_T56 l0_2 x9_2).f1)) := (blk_cell BK417.out 1).trans rfl; have hcz55_2 : w41.cell? ⟨gb417, 2, none⟩ = some (.int .i64 ((rd_T56 l0_2 x9_2).f2)) := (blk_cell BK417.out 2).trans rfl; have hcz55_3 : w41.cell? ⟨gb417, 3, none⟩ = some (.int .i64 ((rd_T56 l0_2 x9_2).f3)) := (blk_cell BK417.out 3).trans rfl; have hcz55_4 : w41.cell? ⟨gb417, 4, none⟩ = some (.int .i64 ((rd_T56 l0_2 x9_2).f4)) := (blk_cell BK417.out 4).trans rfl; have hcz55_5 : w41.cell? ⟨gb417, 5, none⟩ = some (.int .i64 ((rd_T56 l0_2 x9_2).f5)) := (blk_cell BK417.out 5).trans rfl; have hcz55_6 : w41.cell? ⟨gb417, 6, none⟩ = some (.int .i64 ((rd_T56 l0_2 x9_2).f6)) := (blk_cell BK417.out 6).trans rfl; have hfz55_0 := blk_frozen BK417.out 0; have hfz55_1 := blk_frozen BK417.out 1; have hfz55_2 := blk_frozen BK417.out 2; have hfz55_3 := blk_frozen BK417.out 3; have hfz55_4 := blk_frozen BK417.out 4; have hfz55_5 := blk_frozen BK417.out 5; have hfz55_6 := blk_frozen BK417.out 6; go_wp2
              go_meet
              case rel => exact ⟨_, ((a2_1 == ((rd_T56 l0_2 x9_2).f5))), (by first | rfl | (simp; done) | (simp [*]; done)), H', ⟨by have := HJ5.out; have := HK2.out; first | omega | exact Nat.le_refl _⟩, ⟨by (with_reducible repeat (first | apply Kd.rA_ | apply Kd.rN_ | apply Kd.rD_)); exact HO_7.out⟩, ⟨by (with_reducible repeat (first | refine bN_ ?_ _ | refine bD_ ?_ | refine bA_ ?_ _)); exact BK407.out⟩, ⟨by (with_reducible repeat (first | refine bN_ ?_ _ | refine bD_ ?_ | refine bA_ ?_ _)); exact BK408.out⟩, ⟨by (with_reducible repeat (first | refine bN_ ?_ _ | refine bD_ ?_ | refine bA_ ?_ _)); exact BK417.out⟩, ⟨by repeat (first | (with_reducible first | exact HB.out | apply lA_ | apply lN_ | apply lD_ | refine lS_ ?_ GE407.out | refine lS_ ?_ GE408.out | refine lS_ ?_ GE417.out) | exact HB.out)⟩⟩
             ·
              rw [if_neg c50] at H
              have c50b0 : (a2_0 == 3) = false := beq_eq_false_iff_ne.mpr c50; have c50b1 : (a2_0 != 3) = true := bne_iff_ne.mpr c50; have H' := Aside0.mk H; clear H; have hnb56 := NB408_407.out; have hnc56 := NB407_408.out; have hnb57 := NB408_417.out; have hnc57 := NB417_408.out; have hcz58_0 : w41.cell? ⟨gb408, 0, none⟩ = some (.int .i64 a2_0) := (blk_cell BK408.out 0).trans rfl; have hcz58_1 : w41.cell? ⟨gb408, 1, none⟩ = some (.int .i64 a2_1) := (blk_cell BK408.out 1).trans rfl; have hcz58_2 : w41.cell? ⟨gb408, 2, none⟩ = some (.int .i64 a2_2) := (blk_cell BK408.out 2).trans rfl; have hcz58_3 : w41.cell? ⟨gb408, 3, none⟩ = some (.int .i64 a2_3) := (blk_cell BK408.out 3).trans rfl; have hfz58_0 := blk_frozen BK408.out 0; have hfz58_1 := blk_frozen BK408.out 1; have hfz58_2 := blk_frozen BK408.out 2; have hfz58_3 := blk_frozen BK408.out 3; have hnb59 := NB417_407.out; have hnc59 := NB407_417.out; have hcz60_0 : w41.cell? ⟨gb417, 0, none⟩ = some (.int .i64 ((rd_T56 l0_2 x9_2).f0)) := (blk_cell BK417.out 0).trans rfl; have hcz60_1 : w41.cell? ⟨gb417, 1, none⟩ = some (.int .i64 ((rd_T56 l0_2 x9_2).f1)) := (blk_cell BK417.out 1).trans rfl; have hcz60_2 : w41.cell? ⟨gb417, 2, none⟩ = some (.int .i64 ((rd_T56 l0_2 x9_2).f2)) := (blk_cell BK417.out 2).trans rfl; have hcz60_3 : w41.cell? ⟨gb417, 3, none⟩ = some (.int .i64 ((rd_T56 l0_2 x9_2).f3)) := (blk_cell BK417.out 3).trans rfl; have hcz60_4 : w41.cell? ⟨gb417, 4, none⟩ = some (.int .i64 ((rd_T56 l0_2 x9_2).f4)) := (blk_cell BK417.out 4).trans rfl; have hcz60_5 : w41.cell? ⟨gb417, 5, none⟩ = some (.int .i64 ((rd_T56 l0_2 x9_2).f5)) := (blk_cell BK417.out 5).trans rfl; have hcz60_6 : w41.cell? ⟨gb417, 6, none⟩ = some (.int .i64 ((rd_T56 l0_2 x9_2).f6)) := (blk_cell BK417.out 6).trans rfl; have hfz60_0 := blk_frozen BK417.out 0; have hfz60_1 := blk_frozen BK417.out 1; have hfz60_2 := blk_frozen BK417.out 2; have hfz60_3 := blk_frozen BK417.out 3; have hfz60_4 := blk_frozen BK417.out 4; have hfz60_5 := blk_frozen BK417.out 5; have hfz60_6 := blk_frozen BK417.out 6; go_wp2
              go_meet
              case rel => exact ⟨_, (false), (by first | rfl | (simp; done) | (simp [*]; done)), H', ⟨by have := HJ5.out; have := HK2.out; first | omega | exact Nat.le_refl _⟩, ⟨by (with_reducible repeat (first | apply Kd.rA_ | apply Kd.rN_ | apply Kd.rD_)); exact HO_7.out⟩, ⟨by (with_reducible repeat (first | refine bN_ ?_ _ | refine bD_ ?_ | refine bA_ ?_ _)); exact BK407.out⟩, ⟨by (with_reducible repeat (first | refine bN_ ?_ _ | refine bD_ ?_ | refine bA_ ?_ _)); exact BK408.out⟩, ⟨by (with_reducible repeat (first | refine bN_ ?_ _ | refine bD_ ?_ | refine bA_ ?_ _)); exact BK417.out⟩, ⟨by repeat (first | (with_reducible first | exact HB.out | apply lA_ | apply lN_ | apply lD_ | refine lS_ ?_ GE407.out | refine lS_ ?_ GE408.out | refine lS_ ?_ GE417.out) | exact HB.out)⟩⟩
           ·
            rw [if_neg c43] at H
            have c43b0 : (a2_0 == 1) = false := beq_eq_false_iff_ne.mpr c43; have c43b1 : (a2_0 != 1) = true := bne_iff_ne.mpr c43; (first | rw [c43b0] | (simp only [i64_w, i32_w]; rw [c43b0]) | skip)
            by_cases c61 : a2_0 = 3
            ·
             rw [if_pos c61] at H
             have c61b0 : (a2_0 == 3) = true := beq_iff_eq.mpr c61; have c61b1 : (a2_0 != 3) = false := bne_eq_false_iff_eq.mpr c61; clear c61; have H' := Aside0.mk H; clear H; have hnb62 := NB408_407.out; have hnc62 := NB407_408.out; have hnb63 := NB408_417.out; have hnc63 := NB417_408.out; have hcz64_0 : w41.cell? ⟨gb408, 0, none⟩ = some (.int .i64 a2_0) := (blk_cell BK408.out 0).trans rfl; have hcz64_1 : w41.cell? ⟨gb408, 1, none⟩ = some (.int .i64 a2_1) := (blk_cell BK408.out 1).trans rfl; have hcz64_2 : w41.cell? ⟨gb408, 2, none⟩ = some (.int .i64 a2_2) := (blk_cell BK408.out 2).trans rfl; have hcz64_3 : w41.cell? ⟨gb408, 3, none⟩ = some (.int .i64 a2_3) := (blk_cell BK408.out 3).trans rfl; have hfz64_0 := blk_frozen BK408.out 0; have hfz64_1 := blk_frozen BK408.out 1; have hfz64_2 := blk_frozen BK408.out 2; have hfz64_3 := blk_frozen BK408.out 3; have hnb65 := NB417_407.out; have hnc65 := NB407_417.out; have hcz66_0 : w41.cell? ⟨gb417, 0, none⟩ = some (.int .i64 ((rd_T56 l0_2 x9_2).f0)) := (blk_cell BK417.out 0).trans rfl; have hcz66_1 : w41.cell? ⟨gb417, 1, none⟩ = some (.int .i64 ((rd_T56 l0_2 x9_2).f1)) := (blk_cell BK417.out 1).trans rfl; have hcz66_2 : w41.cell? ⟨gb417, 2, none⟩ = some (.int .i64 ((rd_T56 l0_2 x9_2).f2)) := (blk_cell BK417.out 2).trans rfl; have hcz66_3 : w41.cell? ⟨gb417, 3, none⟩ = some (.int .i64 ((rd_T56 l0_2 x9_2).f3)) := (blk_cell BK417.out 3).trans rfl; have hcz66_4 : w41.cell? ⟨gb417, 4, none⟩ = some (.int .i64 ((rd_T56 l0_2 x9_2).f4)) := (blk_cell BK417.out 4).trans rfl; have hcz66_5 : w41.cell? ⟨gb417, 5, none⟩ = some (.int .i64 ((rd_T56 l0_2 x9_2).f5)) := (blk_cell BK417.out 5).trans rfl; have hcz66_6 : w41.cell? ⟨gb417, 6, none⟩ = some (.int .i64 ((rd_T56 l0_2 x9_2).f6)) := (blk_cell BK417.out 6).trans rfl; have hfz66_0 := blk_frozen BK417.out 0; have hfz66_1 := blk_frozen BK417.out 1; have hfz66_2 := blk_frozen BK417.out 2; have hfz66_3 := blk_frozen BK417.out 3; have hfz66_4 := blk_frozen BK417.out 4; have hfz66_5 := blk_frozen BK417.out 5; have hfz66_6 := blk_frozen BK417.out 6; go_wp2
             go_meet
             case rel => exact ⟨_, ((a2_1 == ((rd_T56 l0_2 x9_2).f5))), (by first | rfl | (simp; done) | (simp [*]; done)), H', ⟨by have := HJ5.out; have := HK2.out; first | omega | exact Nat.le_refl _⟩, ⟨by (with_reducible repeat (first | apply Kd.rA_ | apply Kd.rN_ | apply Kd.rD_)); exact HO_7.out⟩, ⟨by (with_reducible repeat (first | refine bN_ ?_ _ | refine bD_ ?_ | refine bA_ ?_ _)); exact BK407.out⟩, ⟨by (with_reducible repeat (first | refine bN_ ?_ _ | refine bD_ ?_ | refine bA_ ?_ _)); exact BK408.out⟩, ⟨by (with_reducible repeat (first | refine bN_ ?_ _ | refine bD_ ?_ | refine bA_ ?_ _)); exact BK417.out⟩, ⟨by repeat (first | (with_reducible first | exact HB.out | apply lA_ | apply lN_ | apply lD_ | refine lS_ ?_ GE407.out | refine lS_ ?_ GE408.out | refine lS_ ?_ GE417.out) | exact HB.out)⟩⟩
            ·
             rw [if_neg c61] at H
             have c61b0 : (a2_0 == 3) = false := beq_eq_false_iff_ne.mpr c61; have c61b1 : (a2_0 != 3) = true := bne_iff_ne.mpr c61; have H' := Aside0.mk H; clear H; have hnb67 := NB408_407.out; have hnc67 := NB407_408.out; have hnb68 := NB408_417.out; have hnc68 := NB417_408.out; have hcz69_0 : w41.cell? ⟨gb408, 0, none⟩ = some (.int .i64 a2_0) := (blk_cell BK408.out 0).trans rfl; have hcz69_1 : w41.cell? ⟨gb408, 1, none⟩ = some (.int .i64 a2_1) := (blk_cell BK408.out 1).trans rfl; have hcz69_2 : w41.cell? ⟨gb408, 2, none⟩ = some (.int .i64 a2_2) := (blk_cell BK408.out 2).trans rfl; have hcz69_3 : w41.cell? ⟨gb408, 3, none⟩ = some (.int .i64 a2_3) := (blk_cell BK408.out 3).trans rfl; have hfz69_0 := blk_frozen BK408.out 0; have hfz69_1 := blk_frozen BK408.out 1; have hfz69_2 := blk_frozen BK408.out 2; have hfz69_3 := blk_frozen BK408.out 3; go_wp2
             go_meet
             case rel => exact ⟨_, (false), (by first | rfl | (simp; done) | (simp [*]; done)), H', ⟨by have := HJ5.out; have := HK2.out; first | omega | exact Nat.le_refl _⟩, ⟨by (with_reducible repeat (first | apply Kd.rA_ | apply Kd.rN_ | apply Kd.rD_)); exact HO_7.out⟩, ⟨by (with_reducible repeat (first | refine bN_ ?_ _ | refine bD_ ?_ | refine bA_ ?_ _)); exact BK407.out⟩, ⟨by (with_reducible repeat (first | refine bN_ ?_ _ | refine bD_ ?_ | refine bA_ ?_ _)); exact BK408.out⟩, ⟨by (with_reducible repeat (first | refine bN_ ?_ _ | refine bD_ ?_ | refine bA_ ?_ _)); exact BK417.out⟩, ⟨by repeat (first | (with_reducible first | exact HB.out | apply lA_ | apply lN_ | apply lD_ | refine lS_ ?_ GE407.out | refine lS_ ?_ GE408.out | refine lS_ ?_ GE417.out) | exact HB.out)⟩⟩
          case rest =>
           clear HC29; try clear c1
           try clear c2
           try clear p2
           try clear c3
           try clear c4
           try clear p4
           try clear q4
           try clear hx4
           try clear c5
           try clear c6
           try clear p6
           try clear c8
           try clear c9
           try clear c11
           try clear c12
           try clear c13
           try clear c14
           try clear c18
           try clear c20
           try clear c22
           try clear c23
           try clear c23b0
           try clear c24
           try clear c24b0
           try clear c28
           try clear c28b0
           try clear c28b1
           try clear c28b2
           try clear c30
           try clear c33
           try clear c34
           try clear p41
           try clear q41
           try clear hx41
           try clear c43
           try clear c43b0
           try clear c43b1
           try clear c44
           try clear c44b0
           try clear c44b1
           try clear c45
           try clear c46
           try clear c48
           try clear c50
           try clear c50b0
           try clear c50b1
           try clear c51
           try clear c52
           try clear c54
           try clear c56
           try clear c57
           try clear c59
           try clear c61
           try clear c61b0
           try clear c61b1
           try clear c62
           try clear c63
           try clear p64
           try clear c65
           try clear c67
           try clear c68
           try clear hcz15_0
           try clear hcz15_1
           try clear hcz15_2
           try clear hcz15_3
           try clear hcz21_0
           try clear hcz21_1
           try clear hcz21_2
           try clear hcz21_3
           try clear hcz31_0
           try clear hcz31_1
           try clear hcz31_2
           try clear hcz31_3
           try clear hcz35_0
           try clear hcz35_1
           try clear hcz35_2
           try clear hcz35_3
           try clear hcz35_4
           try clear hcz35_5
           try clear hcz35_6
           try clear hcz36_0
           try clear hcz36_1
           try clear hcz36_2
           try clear hcz36_3
           try clear hcz47_0
           try clear hcz47_1
           try clear hcz47_2
           try clear hcz47_3
           try clear hcz49_0
           try clear hcz49_1
           try clear hcz49_2
           try clear hcz49_3
           try clear hcz49_4
           try clear hcz49_5
           try clear hcz49_6
           try clear hcz53_0
           try clear hcz53_1
           try clear hcz53_2
           try clear hcz53_3
           try clear hcz55_0
           try clear hcz55_1
           try clear hcz55_2
           try clear hcz55_3
           try clear hcz55_4
           try clear hcz55_5
           try clear hcz55_6
           try clear hcz58_0
           try clear hcz58_1
           try clear hcz58_2
           try clear hcz58_3
           try clear hcz60_0
           try clear hcz60_1
           try clear hcz60_2
           try clear hcz60_3
           try clear hcz60_4
           try clear hcz60_5
           try clear hcz60_6
           try clear hcz64_0
           try clear hcz64_1
           try clear hcz64_2
           try clear hcz64_3
           try clear hcz66_0
           try clear hcz66_1
           try clear hcz66_2
           try clear hcz66_3
           try clear hcz66_4
           try clear hcz66_5
           try clear hcz66_6
           try clear hcz69_0
           try clear hcz69_1
           try clear hcz69_2
           try clear hcz69_3
           try clear hfz15_0
           try clear hfz15_1
           try clear hfz15_2
           try clear hfz15_3
           try clear hfz21_0
           try clear hfz21_1
           try clear hfz21_2
           try clear hfz21_3
           try clear hfz31_0
           try clear hfz31_1
           try clear hfz31_2
           try clear hfz31_3
           try clear hfz35_0
           try clear hfz35_1
           try clear hfz35_2
           try clear hfz35_3
           try clear hfz35_4
           try clear hfz35_5
           try clear hfz35_6
           try clear hfz36_0
           try clear hfz36_1
           try clear hfz36_2
           try clear hfz36_3
           try clear hfz47_0
           try clear hfz47_1
           try clear hfz47_2
           try clear hfz47_3
           try clear hfz49_0
           try clear hfz49_1
           try clear hfz49_2
           try clear hfz49_3
           try clear hfz49_4
           try clear hfz49_5
           try clear hfz49_6
           try clear hfz53_0
           try clear hfz53_1
           try clear hfz53_2
           try clear hfz53_3
           try clear hfz55_0
           try clear hfz55_1
           try clear hfz55_2
           try clear hfz55_3
           try clear hfz55_4
           try clear hfz55_5
           try clear hfz55_6
           try clear hfz58_0
           try clear hfz58_1
           try clear hfz58_2
           try clear hfz58_3
           try clear hfz60_0
           try clear hfz60_1
           try clear hfz60_2
           try clear hfz60_3
           try clear hfz60_4
           try clear hfz60_5
           try clear hfz60_6
           try clear hfz64_0
           try clear hfz64_1
           try clear hfz64_2
           try clear hfz64_3
           try clear hfz66_0
           try clear hfz66_1
           try clear hfz66_2
           try clear hfz66_3
           try clear hfz66_4
           try clear hfz66_5
           try clear hfz66_6
           try clear hfz69_0
           try clear hfz69_1
           try clear hfz69_2
           try clear hfz69_3
           try clear hx416_0
           try clear hx416_1
           try clear hx416_2
           try clear hx416_3
           try clear hx416_4
           try clear hx416_5
           try clear hx416_6
           try clear p2
           try clear p416
           try clear q416
           obtain ⟨kq, x12_28, rfl, HA, HJ28, HO_7, BK407, BK408, BK417, HB⟩ := hcut
           cases kq with
           | zero => exact absurd HA.out (by simp [skiarealaw52_ClosureTargets.j2])
           | succ kj28 =>
            have H := HA.out; clear HA; simp only [skiarealaw52_ClosureTargets.j2] at H
            by_cases c70 : t415 = 0
            ·
             rw [if_pos c70] at H
             have c70b0 : (t415 == 0) = true := beq_iff_eq.mpr c70; have c70b1 : (t415 != 0) = false := bne_eq_false_iff_eq.mpr c70; clear c70; replace H := Option.bind_eq_some_iff.mp H; obtain ⟨t425, A710, H⟩ := H; replace H : (if t418 = true then (if (t425 != true) = true then (none) else (skiarealaw52_ClosureTargets.l0 kj28 l1 t412 t415 (wrap64 (x9_2 + 1)) l0_0 l0_1 l0_2 l0_3 a2_0 a2_1 a2_2 a2_3)) else (if (t425 != x12_28) = true then (none) else (skiarealaw52_ClosureTargets.l0 kj28 l1 t412 t415 (wrap64 (x9_2 + 1)) l0_0 l0_1 l0_2 l0_3 a2_0 a2_1 a2_2 a2_3))) = some r := H; have A71 := Aside0.mk A710; clear A710; by_cases c72 : t418 = true
             ·
              subst c72; have H1 : (if (t425 != true) = true then (none) else (skiarealaw52_ClosureTargets.l0 kj28 l1 t412 t415 (wrap64 (x9_2 + 1)) l0_0 l0_1 l0_2 l0_3 a2_0 a2_1 a2_2 a2_3)) = some r := by rw [if_pos rfl] at H; exact H
              clear H; have H := H1; clear H1; by_cases c73 : (t425 != true) = true
              ·
               rw [if_pos c73] at H
               exact absurd H (by simp)
              ·
               rw [if_neg c73] at H
               have c73b0 : (t425 != true) = false := by simpa using c73
               (try (have c73b1 : decide (t425 = true) = true := by simpa using c73))
               (try (have c73b2 : (t425 == true) = true := by simpa using c73))
               clear c73; have H' := Aside0.mk H; clear H; have hnb74 := NB407_408.out; have hnc74 := NB408_407.out; have hnb75 := NB407_417.out; have hnc75 := NB417_407.out; have hcz76_0 : wc.cell? ⟨gb407, 0, none⟩ = some (.slice A0_0 l0_0.length c0_0) := (blk_cell BK407.out 0).trans rfl; have hcz76_1 : wc.cell? ⟨gb407, 1, none⟩ = some (.slice A0_1 l0_1.length c0_1) := (blk_cell BK407.out 1).trans rfl; have hcz76_2 : wc.cell? ⟨gb407, 2, none⟩ = some (.slice (some ad416) l0_2.length c0_2) := (blk_cell BK407.out 2).trans rfl; have hcz76_3 : wc.cell? ⟨gb407, 3, none⟩ = some (.slice A0_3 l0_3.length c0_3) := (blk_cell BK407.out 3).trans rfl; have hfz76_0 := blk_frozen BK407.out 0; have hfz76_1 := blk_frozen BK407.out 1; have hfz76_2 := blk_frozen BK407.out 2; have hfz76_3 := blk_frozen BK407.out 3; have hnb77 := NB417_408.out; have hnc77 := NB408_417.out; have hcz78_0 : wc.cell? ⟨gb417, 0, none⟩ = some (.int .i64 ((rd_T56 l0_2 x9_2).f0)) := (blk_cell BK417.out 0).trans rfl; have hcz78_1 : wc.cell? ⟨gb417, 1, none⟩ = some (.int .i64 ((rd_T56 l0_2 x9_2).f1)) := (blk_cell BK417.out 1).trans rfl; have hcz78_2 : wc.cell? ⟨gb417, 2, none⟩ = some (.int .i64 ((rd_T56 l0_2 x9_2).f2)) := (blk_cell BK417.out 2).trans rfl; have hcz78_3 : wc.cell? ⟨gb417, 3, none⟩ = some (.int .i64 ((rd_T56 l0_2 x9_2).f3)) := (blk_cell BK417.out 3).trans rfl; have hcz78_4 : wc.cell? ⟨gb417, 4, none⟩ = some (.int .i64 ((rd_T56 l0_2 x9_2).f4)) := (blk_cell BK417.out 4).trans rfl; have hcz78_5 : wc.cell? ⟨gb417, 5, none⟩ = some (.int .i64 ((rd_T56 l0_2 x9_2).f5)) := (blk_cell BK417.out 5).trans rfl; have hcz78_6 : wc.cell? ⟨gb417, 6, none⟩ = some (.int .i64 ((rd_T56 l0_2 x9_2).f6)) := (blk_cell BK417.out 6).trans rfl; have hfz78_0 := blk_frozen BK417.out 0; have hfz78_1 := blk_frozen BK417.out 1; have hfz78_2 := blk_frozen BK417.out 2; have hfz78_3 := blk_frozen BK417.out 3; have hfz78_4 := blk_frozen BK417.out 4; have hfz78_5 := blk_frozen BK417.out 5; have hfz78_6 := blk_frozen BK417.out 6; obtain ⟨Ao79, co79, eo79⟩ := Kd.R_slice HO_7.out; subst eo79
               go_wp2_with (first | (go_at_call 22; (with_reducible refine (closure_Run.calls _ _ l0_0 _ _ l0_1 _ _ l0_2 _ _ l0_3 _ _ t412 ((rd_T56 l0_2 x9_2).f0) t425 _ ?side1 ?side2 ?side3 ?side4 ?side5 ?side6 ?side7 ?side8 ?side9 ?side10 A71.out).mono ?_); (case side1 => repeat (first | exact (Kd.C_below HR0_0.out HB.out) | (with_reducible refine Kd.cA_ ?_ _) | (with_reducible refine Kd.cN_ ?_ _) | (with_reducible refine Kd.cD_ ?_))); (case side2 => exact HC0_0.out); (case side3 => repeat (first | exact (Kd.C_below HR0_1.out HB.out) | (with_reducible refine Kd.cA_ ?_ _) | (with_reducible refine Kd.cN_ ?_ _) | (with_reducible refine Kd.cD_ ?_))); (case side4 => exact HC0_1.out); (case side5 => repeat (first | exact (Kd.C_below HR0_2.out HB.out) | (with_reducible refine Kd.cA_ ?_ _) | (with_reducible refine Kd.cN_ ?_ _) | (with_reducible refine Kd.cD_ ?_))); (case side6 => exact HC0_2.out); (case side7 => repeat (first | exact (Kd.C_below HR0_3.out HB.out) | (with_reducible refine Kd.cA_ ?_ _) | (with_reducible refine Kd.cN_ ?_ _) | (with_reducible refine Kd.cD_ ?_))); (case side8 => exact HC0_3.out); (case side9 => repeat (first | exact (Kd.R_reads' HO_7.out).2.2 | (with_reducible refine Kd.cA_ ?_ _) | (with_reducible refine Kd.cN_ ?_ _) | (with_reducible refine Kd.cD_ ?_))); (case side10 => exact (Kd.R_reads' HO_7.out).2.1); rintro e w80 ⟨rfl, hb⟩; (try clear A71); have n0_ := Aside0.mk (Kd.R_below (by (with_reducible repeat (first | apply Kd.rA_ | apply Kd.rN_ | apply Kd.rD_)); exact HO_7.out) hb); have n1_ := Aside0.mk (blk_below (g := gb407) (o := .cells #[.slice A0_0 l0_0.length c0_0, .slice A0_1 l0_1.length c0_1, .slice (some ad416) l0_2.length c0_2, .slice A0_3 l0_3.length c0_3] 41 (0, 0)) (by (with_reducible repeat (first | refine bN_ ?_ _ | refine bD_ ?_ | refine bA_ ?_ _)); exact BK407.out) hb); have n2_ := Aside0.mk (blk_below (g := gb408) (o := .cells #[.int .i64 a2_0, .int .i64 a2_1, .int .i64 a2_2, .int .i64 a2_3] 28 (0, 0)) (by (with_reducible repeat (first | refine bN_ ?_ _ | refine bD_ ?_ | refine bA_ ?_ _)); exact BK408.out) hb); have n3_ := Aside0.mk (blk_below (g := gb417) (o := .cells #[.int .i64 ((rd_T56 l0_2 x9_2).f0), .int .i64 ((rd_T56 l0_2 x9_2).f1), .int .i64 ((rd_T56 l0_2 x9_2).f2), .int .i64 ((rd_T56 l0_2 x9_2).f3), .int .i64 ((rd_T56 l0_2 x9_2).f4), .int .i64 ((rd_T56 l0_2 x9_2).f5), .int .i64 ((rd_T56 l0_2 x9_2).f6)] 56 (0, 0)) (by (with_reducible repeat (first | refine bN_ ?_ _ | refine bD_ ?_ | refine bA_ ?_ _)); exact BK417.out) hb); have n4_ := Aside0.mk (below_step (by repeat (first | (with_reducible first | exact HB.out | apply lA_ | apply lN_ | apply lD_ | refine lS_ ?_ GE407.out | refine lS_ ?_ GE408.out | refine lS_ ?_ GE417.out) | exact HB.out)) hb); clear HO_7; clear BK407; clear BK408; clear BK417; clear HB; have HO_7 := n0_; have BK407 := n1_; have BK408 := n2_; have BK417 := n3_; have HB := n4_; clear n0_ n1_ n2_ n3_ n4_; (try clear hb); (try clear hb2); (try clear hk); (try clear hi)))
               go_roundg kj28
               case measure => have := HJ5.out; have := HK2.out; have := HJ28.out; omega
               case rel => exact ⟨(wrap64 (x9_2 + 1)), (by first | rfl | (simp; done) | (simp [*]; done)), H', ⟨by have := HJ5.out; have := HK2.out; have := HJ28.out; omega⟩, ⟨by (with_reducible repeat (first | apply Kd.rA_ | apply Kd.rN_ | apply Kd.rD_)); exact HO_7.out⟩, ⟨by (with_reducible repeat (first | refine bN_ ?_ _ | refine bD_ ?_ | refine bA_ ?_ _)); exact BK407.out⟩, ⟨by (with_reducible repeat (first | refine bN_ ?_ _ | refine bD_ ?_ | refine bA_ ?_ _)); exact BK408.out⟩, ⟨by repeat (first | (with_reducible first | exact HB.out | apply lA_ | apply lN_ | apply lD_ | refine lS_ ?_ GE407.out | refine lS_ ?_ GE408.out | refine lS_ ?_ GE417.out) | exact HB.out)⟩⟩
             ·
              replace c72 := Bool.eq_false_iff.mpr c72; subst c72; have H1 : (if (t425 != x12_28) = true then (none) else (skiarealaw52_ClosureTargets.l0 kj28 l1 t412 t415 (wrap64 (x9_2 + 1)) l0_0 l0_1 l0_2 l0_3 a2_0 a2_1 a2_2 a2_3)) = some r := by rw [if_neg (show ¬ (false = true) by decide)] at H; exact H
              clear H; have H := H1; clear H1; by_cases c81 : (t425 != x12_28) = true
              ·
               rw [if_pos c81] at H
               exact absurd H (by simp)
              ·
               rw [if_neg c81] at H
               have c81b0 : (t425 != x12_28) = false := by simpa using c81
               (try (have c81b1 : decide (t425 = x12_28) = true := by simpa using c81))
               (try (have c81b2 : (t425 == x12_28) = true := by simpa using c81))
               clear c81; have H' := Aside0.mk H; clear H; have hnb82 := NB407_408.out; have hnc82 := NB408_407.out; have hnb83 := NB407_417.out; have hnc83 := NB417_407.out; have hcz84_0 : wc.cell? ⟨gb407, 0, none⟩ = some (.slice A0_0 l0_0.length c0_0) := (blk_cell BK407.out 0).trans rfl; have hcz84_1 : wc.cell? ⟨gb407, 1, none⟩ = some (.slice A0_1 l0_1.length c0_1) := (blk_cell BK407.out 1).trans rfl; have hcz84_2 : wc.cell? ⟨gb407, 2, none⟩ = some (.slice (some ad416) l0_2.length c0_2) := (blk_cell BK407.out 2).trans rfl; have hcz84_3 : wc.cell? ⟨gb407, 3, none⟩ = some (.slice A0_3 l0_3.length c0_3) := (blk_cell BK407.out 3).trans rfl; have hfz84_0 := blk_frozen BK407.out 0; have hfz84_1 := blk_frozen BK407.out 1; have hfz84_2 := blk_frozen BK407.out 2; have hfz84_3 := blk_frozen BK407.out 3; have hnb85 := NB417_408.out; have hnc85 := NB408_417.out; have hcz86_0 : wc.cell? ⟨gb417, 0, none⟩ = some (.int .i64 ((rd_T56 l0_2 x9_2).f0)) := (blk_cell BK417.out 0).trans rfl; have hcz86_1 : wc.cell? ⟨gb417, 1, none⟩ = some (.int .i64 ((rd_T56 l0_2 x9_2).f1)) := (blk_cell BK417.out 1).trans rfl; have hcz86_2 : wc.cell? ⟨gb417, 2, none⟩ = some (.int .i64 ((rd_T56 l0_2 x9_2).f2)) := (blk_cell BK417.out 2).trans rfl; have hcz86_3 : wc.cell? ⟨gb417, 3, none⟩ = some (.int .i64 ((rd_T56 l0_2 x9_2).f3)) := (blk_cell BK417.out 3).trans rfl; have hcz86_4 : wc.cell? ⟨gb417, 4, none⟩ = some (.int .i64 ((rd_T56 l0_2 x9_2).f4)) := (blk_cell BK417.out 4).trans rfl; have hcz86_5 : wc.cell? ⟨gb417, 5, none⟩ = some (.int .i64 ((rd_T56 l0_2 x9_2).f5)) := (blk_cell BK417.out 5).trans rfl; have hcz86_6 : wc.cell? ⟨gb417, 6, none⟩ = some (.int .i64 ((rd_T56 l0_2 x9_2).f6)) := (blk_cell BK417.out 6).trans rfl; have hfz86_0 := blk_frozen BK417.out 0; have hfz86_1 := blk_frozen BK417.out 1; have hfz86_2 := blk_frozen BK417.out 2; have hfz86_3 := blk_frozen BK417.out 3; have hfz86_4 := blk_frozen BK417.out 4; have hfz86_5 := blk_frozen BK417.out 5; have hfz86_6 := blk_frozen BK417.out 6; obtain ⟨Ao87, co87, eo87⟩ := Kd.R_slice HO_7.out; subst eo87
               go_wp2_with (first | (go_at_call 22; (with_reducible refine (closure_Run.calls _ _ l0_0 _ _ l0_1 _ _ l0_2 _ _ l0_3 _ _ t412 ((rd_T56 l0_2 x9_2).f0) t425 _ ?side1 ?side2 ?side3 ?side4 ?side5 ?side6 ?side7 ?side8 ?side9 ?side10 A71.out).mono ?_); (case side1 => repeat (first | exact (Kd.C_below HR0_0.out HB.out) | (with_reducible refine Kd.cA_ ?_ _) | (with_reducible refine Kd.cN_ ?_ _) | (with_reducible refine Kd.cD_ ?_))); (case side2 => exact HC0_0.out); (case side3 => repeat (first | exact (Kd.C_below HR0_1.out HB.out) | (with_reducible refine Kd.cA_ ?_ _) | (with_reducible refine Kd.cN_ ?_ _) | (with_reducible refine Kd.cD_ ?_))); (case side4 => exact HC0_1.out); (case side5 => repeat (first | exact (Kd.C_below HR0_2.out HB.out) | (with_reducible refine Kd.cA_ ?_ _) | (with_reducible refine Kd.cN_ ?_ _) | (with_reducible refine Kd.cD_ ?_))); (case side6 => exact HC0_2.out); (case side7 => repeat (first | exact (Kd.C_below HR0_3.out HB.out) | (with_reducible refine Kd.cA_ ?_ _) | (with_reducible refine Kd.cN_ ?_ _) | (with_reducible refine Kd.cD_ ?_))); (case side8 => exact HC0_3.out); (case side9 => repeat (first | exact (Kd.R_reads' HO_7.out).2.2 | (with_reducible refine Kd.cA_ ?_ _) | (with_reducible refine Kd.cN_ ?_ _) | (with_reducible refine Kd.cD_ ?_))); (case side10 => exact (Kd.R_reads' HO_7.out).2.1); rintro e w88 ⟨rfl, hb⟩; (try clear A71); have n0_ := Aside0.mk (Kd.R_below (by (with_reducible repeat (first | apply Kd.rA_ | apply Kd.rN_ | apply Kd.rD_)); exact HO_7.out) hb); have n1_ := Aside0.mk (blk_below (g := gb407) (o := .cells #[.slice A0_0 l0_0.length c0_0, .slice A0_1 l0_1.length c0_1, .slice (some ad416) l0_2.length c0_2, .slice A0_3 l0_3.length c0_3] 41 (0, 0)) (by (with_reducible repeat (first | refine bN_ ?_ _ | refine bD_ ?_ | refine bA_ ?_ _)); exact BK407.out) hb); have n2_ := Aside0.mk (blk_below (g := gb408) (o := .cells #[.int .i64 a2_0, .int .i64 a2_1, .int .i64 a2_2, .int .i64 a2_3] 28 (0, 0)) (by (with_reducible repeat (first | refine bN_ ?_ _ | refine bD_ ?_ | refine bA_ ?_ _)); exact BK408.out) hb); have n3_ := Aside0.mk (blk_below (g := gb417) (o := .cells #[.int .i64 ((rd_T56 l0_2 x9_2).f0), .int .i64 ((rd_T56 l0_2 x9_2).f1), .int .i64 ((rd_T56 l0_2 x9_2).f2), .int .i64 ((rd_T56 l0_2 x9_2).f3), .int .i64 ((rd_T56 l0_2 x9_2).f4), .int .i64 ((rd_T56 l0_2 x9_2).f5), .int .i64 ((rd_T56 l0_2 x9_2).f6)] 56 (0, 0)) (by (with_reducible repeat (first | refine bN_ ?_ _ | refine bD_ ?_ | refine bA_ ?_ _)); exact BK417.out) hb); have n4_ := Aside0.mk (below_step (by repeat (first | (with_reducible first | exact HB.out | apply lA_ | apply lN_ | apply lD_ | refine lS_ ?_ GE407.out | refine lS_ ?_ GE408.out | refine lS_ ?_ GE417.out) | exact HB.out)) hb); clear HO_7; clear BK407; clear BK408; clear BK417; clear HB; have HO_7 := n0_; have BK407 := n1_; have BK408 := n2_; have BK417 := n3_; have HB := n4_; clear n0_ n1_ n2_ n3_ n4_; (try clear hb); (try clear hb2); (try clear hk); (try clear hi)))
               go_roundg kj28
               case measure => have := HJ5.out; have := HK2.out; have := HJ28.out; omega
               case rel => exact ⟨(wrap64 (x9_2 + 1)), (by first | rfl | (simp; done) | (simp [*]; done)), H', ⟨by have := HJ5.out; have := HK2.out; have := HJ28.out; omega⟩, ⟨by (with_reducible repeat (first | apply Kd.rA_ | apply Kd.rN_ | apply Kd.rD_)); exact HO_7.out⟩, ⟨by (with_reducible repeat (first | refine bN_ ?_ _ | refine bD_ ?_ | refine bA_ ?_ _)); exact BK407.out⟩, ⟨by (with_reducible repeat (first | refine bN_ ?_ _ | refine bD_ ?_ | refine bA_ ?_ _)); exact BK408.out⟩, ⟨by repeat (first | (with_reducible first | exact HB.out | apply lA_ | apply lN_ | apply lD_ | refine lS_ ?_ GE407.out | refine lS_ ?_ GE408.out | refine lS_ ?_ GE417.out) | exact HB.out)⟩⟩
            ·
             rw [if_neg c70] at H
             have c70b0 : (t415 == 0) = false := beq_eq_false_iff_ne.mpr c70; have c70b1 : (t415 != 0) = true := bne_iff_ne.mpr c70; have H' := Aside0.mk H; clear H; go_wp2
             go_roundg kj28
             case measure => have := HJ5.out; have := HK2.out; have := HJ28.out; omega
             case rel => exact ⟨(wrap64 (x9_2 + 1)), (by first | rfl | (simp; done) | (simp [*]; done)), H', ⟨by have := HJ5.out; have := HK2.out; have := HJ28.out; omega⟩, ⟨by (with_reducible repeat (first | apply Kd.rA_ | apply Kd.rN_ | apply Kd.rD_)); exact HO_7.out⟩, ⟨by (with_reducible repeat (first | refine bN_ ?_ _ | refine bD_ ?_ | refine bA_ ?_ _)); exact BK407.out⟩, ⟨by (with_reducible repeat (first | refine bN_ ?_ _ | refine bD_ ?_ | refine bA_ ?_ _)); exact BK408.out⟩, ⟨by repeat (first | (with_reducible first | exact HB.out | apply lA_ | apply lN_ | apply lD_ | refine lS_ ?_ GE407.out | refine lS_ ?_ GE408.out | refine lS_ ?_ GE417.out) | exact HB.out)⟩⟩
        ·
         rw [if_neg c24] at H
         exact absurd H (by simp)
       ·
        rw [if_neg c23] at H
        have c23b0 : decide (x9_2 < (l0_2.length : Int)) = false := decide_eq_false c23; clear c23; replace H := Option.bind_eq_some_iff.mp H; obtain ⟨t426, A890, H⟩ := H; replace H : (skiarealaw52_ClosureTargets.l1 k2 l1 t426 0 a2_0 a2_1 a2_2 a2_3) = some r := H; have A89 := Aside0.mk A890; clear A890; have H' := Aside0.mk H; clear H; have hnb90 := NB407_408.out; have hnc90 := NB408_407.out; have hcz91_0 : wr.cell? ⟨gb407, 0, none⟩ = some (.slice A0_0 l0_0.length c0_0) := (blk_cell BK407.out 0).trans rfl; have hcz91_1 : wr.cell? ⟨gb407, 1, none⟩ = some (.slice A0_1 l0_1.length c0_1) := (blk_cell BK407.out 1).trans rfl; have hcz91_2 : wr.cell? ⟨gb407, 2, none⟩ = some (.slice A0_2 l0_2.length c0_2) := (blk_cell BK407.out 2).trans rfl; have hcz91_3 : wr.cell? ⟨gb407, 3, none⟩ = some (.slice A0_3 l0_3.length c0_3) := (blk_cell BK407.out 3).trans rfl; have hfz91_0 := blk_frozen BK407.out 0; have hfz91_1 := blk_frozen BK407.out 1; have hfz91_2 := blk_frozen BK407.out 2; have hfz91_3 := blk_frozen BK407.out 3; have hcz92_0 : wr.cell? ⟨gb408, 0, none⟩ = some (.int .i64 a2_0) := (blk_cell BK408.out 0).trans rfl; have hcz92_1 : wr.cell? ⟨gb408, 1, none⟩ = some (.int .i64 a2_1) := (blk_cell BK408.out 1).trans rfl; have hcz92_2 : wr.cell? ⟨gb408, 2, none⟩ = some (.int .i64 a2_2) := (blk_cell BK408.out 2).trans rfl; have hcz92_3 : wr.cell? ⟨gb408, 3, none⟩ = some (.int .i64 a2_3) := (blk_cell BK408.out 3).trans rfl; have hfz92_0 := blk_frozen BK408.out 0; have hfz92_1 := blk_frozen BK408.out 1; have hfz92_2 := blk_frozen BK408.out 2; have hfz92_3 := blk_frozen BK408.out 3
        go_wp2_with (first | ((with_reducible refine gate_callee (f := 20) rfl ?_); refine goesL_ (some 103) rfl rfl Try.func20 (by kernel_rfl) rfl #[.slice A1 l1.length c1, .int .i64 a2_0, .int .i64 a2_1] rfl (by (try simp only [List.map_toArray, List.map_cons, List.map_nil]); first | done | rfl | (simp only [List.length_drop, List.length_take]; rfl)) ?_; (with_reducible refine (closure_Of.calls k2 _ _ l1 a2_0 a2_1 t426 _ ?side1 ?side2 A89.out).mono ?_); (case side1 => repeat (first | exact (Kd.C_below HR1.out HB.out) | (with_reducible refine Kd.cA_ ?_ _) | (with_reducible refine Kd.cN_ ?_ _) | (with_reducible refine Kd.cD_ ?_))); (case side2 => exact HC1.out); rintro e w93 ⟨v427, rfl, ho0, hb⟩; refine ⟨_, rfl, ?_⟩; have n0_ := Aside0.mk (Kd.R_below (by (with_reducible repeat (first | apply Kd.rA_ | apply Kd.rN_ | apply Kd.rD_)); exact HO_7.out) hb); have n1_ := Aside0.mk (Kd.R_lower ho0 (below_size (by repeat (first | (with_reducible first | exact HB.out | apply lA_ | apply lN_ | apply lD_ | refine lS_ ?_ GE407.out | refine lS_ ?_ GE408.out) | exact HB.out)))); have n2_ := Aside0.mk (blk_below (g := gb407) (o := .cells #[.slice A0_0 l0_0.length c0_0, .slice A0_1 l0_1.length c0_1, .slice A0_2 l0_2.length c0_2, .slice A0_3 l0_3.length c0_3] 41 (0, 0)) (by (with_reducible repeat (first | refine bN_ ?_ _ | refine bD_ ?_ | refine bA_ ?_ _)); exact BK407.out) hb); have n3_ := Aside0.mk (blk_below (g := gb408) (o := .cells #[.int .i64 a2_0, .int .i64 a2_1, .int .i64 a2_2, .int .i64 a2_3] 28 (0, 0)) (by (with_reducible repeat (first | refine bN_ ?_ _ | refine bD_ ?_ | refine bA_ ?_ _)); exact BK408.out) hb); have n4_ := Aside0.mk (below_step (by repeat (first | (with_reducible first | exact HB.out | apply lA_ | apply lN_ | apply lD_ | refine lS_ ?_ GE407.out | refine lS_ ?_ GE408.out) | exact HB.out)) hb); clear HO_7; clear BK407; clear BK408; clear HB; have HO_7 := n0_; have HO428 := n1_; have BK407 := n2_; have BK408 := n3_; have HB := n4_; clear n0_ n1_ n2_ n3_ n4_; (try clear hb); (try clear hb2); (try clear hk); (try clear hi); (try clear ho0)))
        go_loopg [14] k2 (fun kq v14 w' => ∃ (x14_3 : Int), v14 = .int .i64 x14_3 ∧ Aside0 (skiarealaw52_ClosureTargets.l1 kq l1 t426 x14_3 a2_0 a2_1 a2_2 a2_3 = some r) ∧ Aside0 (kq ≤ k2) ∧ Aside0 (Kd.R (Kd.int .i64) 3 w' w.heap.size (fun _ => True) v427 t426) ∧ Aside0 (w'.heap[gb407]? = some (.cells #[(.slice A0_0 l0_0.length c0_0), (.slice A0_1 l0_1.length c0_1), (.slice A0_2 l0_2.length c0_2), (.slice A0_3 l0_3.length c0_3)] 41 (0, 0))) ∧ Aside0 (w'.heap[gb408]? = some (.cells #[.int .i64 a2_0, .int .i64 a2_1, .int .i64 a2_2, .int .i64 a2_3] 28 (0, 0))) ∧ Aside0 (Below w.heap.size w w'))
        case atStart => exact ⟨(0), (by first | rfl | (simp; done) | (simp [*]; done)), H', ⟨Nat.le_refl _⟩, ⟨by (with_reducible repeat (first | apply Kd.rA_ | apply Kd.rN_ | apply Kd.rD_)); exact HO428.out⟩, ⟨by (with_reducible repeat (first | refine bN_ ?_ _ | refine bD_ ?_ | refine bA_ ?_ _)); exact BK407.out⟩, ⟨by (with_reducible repeat (first | refine bN_ ?_ _ | refine bD_ ?_ | refine bA_ ?_ _)); exact BK408.out⟩, ⟨by repeat (first | (with_reducible first | exact HB.out | apply lA_ | apply lN_ | apply lD_ | refine lS_ ?_ GE407.out | refine lS_ ?_ GE408.out) | exact HB.out)⟩⟩
        case round =>
         clear H'; try clear c1
         try clear c2
         try clear p2
         try clear c3
         try clear c4
         try clear p4
         try clear q4
         try clear hx4
         try clear c5
         try clear c6
         try clear p6
         try clear c7
         try clear c8
         try clear c9
         try clear c11
         try clear c12
         try clear c13
         try clear c14
         try clear c18
         try clear c20
         try clear c22
         try clear c23
         try clear c23b0
         try clear c24
         try clear c24b0
         try clear c28
         try clear c28b0
         try clear c28b1
         try clear c28b2
         try clear c30
         try clear c33
         try clear c34
         try clear p41
         try clear q41
         try clear hx41
         try clear c43
         try clear c43b0
         try clear c43b1
         try clear c44
         try clear c44b0
         try clear c44b1
         try clear c45
         try clear c46
         try clear c48
         try clear c50
         try clear c50b0
         try clear c50b1
         try clear c51
         try clear c52
         try clear c54
         try clear c56
         try clear c57
         try clear c59
         try clear c61
         try clear c61b0
         try clear c61b1
         try clear c62
         try clear c63
         try clear p64
         try clear c65
         try clear c67
         try clear c68
         try clear c70
         try clear c70b0
         try clear c70b1
         try clear c72
         try clear c73
         try clear c73b0
         try clear c73b1
         try clear c73b2
         try clear c74
         try clear c75
         try clear c77
         try clear c81
         try clear c81b0
         try clear c81b1
         try clear c81b2
         try clear c82
         try clear c83
         try clear c85
         try clear c90
         try clear hcz15_0
         try clear hcz15_1
         try clear hcz15_2
         try clear hcz15_3
         try clear hcz21_0
         try clear hcz21_1
         try clear hcz21_2
         try clear hcz21_3
         try clear hcz31_0
         try clear hcz31_1
         try clear hcz31_2
         try clear hcz31_3
         try clear hcz35_0
         try clear hcz35_1
         try clear hcz35_2
         try clear hcz35_3
         try clear hcz35_4
         try clear hcz35_5
         try clear hcz35_6
         try clear hcz36_0
         try clear hcz36_1
         try clear hcz36_2
         try clear hcz36_3
         try clear hcz47_0
         try clear hcz47_1
         try clear hcz47_2
         try clear hcz47_3
         try clear hcz49_0
         try clear hcz49_1
         try clear hcz49_2
         try clear hcz49_3
         try clear hcz49_4
         try clear hcz49_5
         try clear hcz49_6
         try clear hcz53_0
         try clear hcz53_1
         try clear hcz53_2
         try clear hcz53_3
         try clear hcz55_0
         try clear hcz55_1
         try clear hcz55_2
         try clear hcz55_3
         try clear hcz55_4
         try clear hcz55_5
         try clear hcz55_6
         try clear hcz58_0
         try clear hcz58_1
         try clear hcz58_2
         try clear hcz58_3
         try clear hcz60_0
         try clear hcz60_1
         try clear hcz60_2
         try clear hcz60_3
         try clear hcz60_4
         try clear hcz60_5
         try clear hcz60_6
         try clear hcz64_0
         try clear hcz64_1
         try clear hcz64_2
         try clear hcz64_3
         try clear hcz66_0
         try clear hcz66_1
         try clear hcz66_2
         try clear hcz66_3
         try clear hcz66_4
         try clear hcz66_5
         try clear hcz66_6
         try clear hcz69_0
         try clear hcz69_1
         try clear hcz69_2
         try clear hcz69_3
         try clear hcz76_0
         try clear hcz76_1
         try clear hcz76_2
         try clear hcz76_3
         try clear hcz78_0
         try clear hcz78_1
         try clear hcz78_2
         try clear hcz78_3
         try clear hcz78_4
         try clear hcz78_5
         try clear hcz78_6
         try clear hcz84_0
         try clear hcz84_1
         try clear hcz84_2
         try clear hcz84_3
         try clear hcz86_0
         try clear hcz86_1
         try clear hcz86_2
         try clear hcz86_3
         try clear hcz86_4
         try clear hcz86_5
         try clear hcz86_6
         try clear hcz91_0
         try clear hcz91_1
         try clear hcz91_2
         try clear hcz91_3
         try clear hcz92_0
         try clear hcz92_1
         try clear hcz92_2
         try clear hcz92_3
         try clear hfz15_0
         try clear hfz15_1
         try clear hfz15_2
         try clear hfz15_3
         try clear hfz21_0
         try clear hfz21_1
         try clear hfz21_2
         try clear hfz21_3
         try clear hfz31_0
         try clear hfz31_1
         try clear hfz31_2
         try clear hfz31_3
         try clear hfz35_0
         try clear hfz35_1
         try clear hfz35_2
         try clear hfz35_3
         try clear hfz35_4
         try clear hfz35_5
         try clear hfz35_6
         try clear hfz36_0
         try clear hfz36_1
         try clear hfz36_2
         try clear hfz36_3
         try clear hfz47_0
         try clear hfz47_1
         try clear hfz47_2
         try clear hfz47_3
         try clear hfz49_0
         try clear hfz49_1
         try clear hfz49_2
         try clear hfz49_3
         try clear hfz49_4
         try clear hfz49_5
         try clear hfz49_6
         try clear hfz53_0
         try clear hfz53_1
         try clear hfz53_2
         try clear hfz53_3
         try clear hfz55_0
         try clear hfz55_1
         try clear hfz55_2
         try clear hfz55_3
         try clear hfz55_4
         try clear hfz55_5
         try clear hfz55_6
         try clear hfz58_0
         try clear hfz58_1
         try clear hfz58_2
         try clear hfz58_3
         try clear hfz60_0
         try clear hfz60_1
         try clear hfz60_2
         try clear hfz60_3
         try clear hfz60_4
         try clear hfz60_5
         try clear hfz60_6
         try clear hfz64_0
         try clear hfz64_1
         try clear hfz64_2
         try clear hfz64_3
         try clear hfz66_0
         try clear hfz66_1
         try clear hfz66_2
         try clear hfz66_3
         try clear hfz66_4
         try clear hfz66_5
         try clear hfz66_6
         try clear hfz69_0
         try clear hfz69_1
         try clear hfz69_2
         try clear hfz69_3
         try clear hfz76_0
         try clear hfz76_1
         try clear hfz76_2
         try clear hfz76_3
         try clear hfz78_0
         try clear hfz78_1
         try clear hfz78_2
         try clear hfz78_3
         try clear hfz78_4
         try clear hfz78_5
         try clear hfz78_6
         try clear hfz84_0
         try clear hfz84_1
         try clear hfz84_2
         try clear hfz84_3
         try clear hfz86_0
         try clear hfz86_1
         try clear hfz86_2
         try clear hfz86_3
         try clear hfz86_4
         try clear hfz86_5
         try clear hfz86_6
         try clear hfz91_0
         try clear hfz91_1
         try clear hfz91_2
         try clear hfz91_3
         try clear hfz92_0
         try clear hfz92_1
         try clear hfz92_2
         try clear hfz92_3
         try clear hx416_0
         try clear hx416_1
         try clear hx416_2
         try clear hx416_3
         try clear hx416_4
         try clear hx416_5
         try clear hx416_6
         try clear p2
         try clear p4
         try clear p41
         try clear p416
         try clear p6
         try clear p64
         try clear q4
         try clear q41
         try clear q416
         obtain ⟨x14_3, rfl, HA, HK3, HO_13, BK407, BK408, HB⟩ := hrel
         cases gk with
         | zero => exact absurd HA.out (by simp [skiarealaw52_ClosureTargets.l1])
         | succ k3 =>
          have H := HA.out; clear HA; simp only [skiarealaw52_ClosureTargets.l1] at H
          by_cases c94 : x14_3 < (t426.length : Int)
          ·
           rw [if_pos c94] at H
           have c94b0 : decide (x14_3 < (t426.length : Int)) = true := decide_eq_true c94; clear c94; by_cases c95 : 0 ≤ x14_3
           ·
            rw [if_pos c95] at H
            have c95b0 : decide (0 ≤ x14_3) = true := decide_eq_true c95; clear c95; by_cases c96 : (rd t426 x14_3) < 1
            ·
             rw [if_pos c96] at H
             have c96b0 : decide ((rd t426 x14_3) < 1) = true := decide_eq_true c96; clear c96
             exact absurd H (by simp)
            ·
             rw [if_neg c96] at H
             have c96b0 : decide ((rd t426 x14_3) < 1) = false := decide_eq_false c96; clear c96; by_cases c97 : (rd t426 x14_3) > 6
             ·
              rw [if_pos c97] at H
              have c97b0 : decide (6 < (rd t426 x14_3)) = true := decide_eq_true c97; clear c97
              exact absurd H (by simp)
             ·
              rw [if_neg c97] at H
              have c97b0 : decide (6 < (rd t426 x14_3)) = false := decide_eq_false c97; clear c97; by_cases c98 : x14_3 > 0
              ·
               rw [if_pos c98] at H
               have c98b0 : decide (0 < x14_3) = true := decide_eq_true c98; clear c98; obtain ⟨ji99, hji99⟩ : ∃ j_ : Int, (wrap64 (x14_3 - 1)) = j_ := ⟨_, rfl⟩; replace H : (if 0 ≤ (ji99) then (if (ji99) < (t426.length : Int) then (if (rd t426 x14_3) ≤ (rd t426 (ji99)) then (none) else (skiarealaw52_ClosureTargets.l1 k3 l1 t426 (wrap64 (x14_3 + 1)) a2_0 a2_1 a2_2 a2_3)) else (none)) else (none)) = some r := by first | (rw [hji99] at H; exact H) | (simp only [hji99] at H ⊢; exact H)
               have hji99w : (IntKind.i64.wrap (x14_3 - 1)) = ji99 := (i64_w _).trans hji99; by_cases c100 : 0 ≤ (ji99)
               ·
                rw [if_pos c100] at H
                have c100b0 : decide (0 ≤ (ji99)) = true := decide_eq_true c100; clear c100; by_cases c101 : (ji99) < (t426.length : Int)
                ·
                 rw [if_pos c101] at H
                 have c101b0 : decide ((ji99) < (t426.length : Int)) = true := decide_eq_true c101; clear c101; by_cases c102 : (rd t426 x14_3) ≤ (rd t426 (ji99))
                 ·
                  rw [if_pos c102] at H
                  exact absurd H (by simp)
                 ·
                  rw [if_neg c102] at H
                  have c102b0 : decide ((rd t426 x14_3) ≤ (rd t426 (ji99))) = false := decide_eq_false c102; clear c102; have H' := Aside0.mk H; clear H; obtain ⟨Ao103, co103, eo103⟩ := Kd.R_slice HO_13.out; subst eo103; try go_wp2
                  have n0_ := Aside0.mk (Kd.rD_ HO_13.out); have n1_ := Aside0.mk (bD_ BK407.out); have n2_ := Aside0.mk (bD_ BK408.out); have n3_ := Aside0.mk (lD_ HB.out); clear HO_13; clear BK407; clear BK408; clear HB; have HO_13 := n0_; have BK407 := n1_; have BK408 := n2_; have HB := n3_; clear n0_ n1_ n2_ n3_; have p429 : 0 ≤ (x14_3 : Int) := of_decide_eq_true (by first | (with_reducible assumption) | assumption); have q429 : x14_3 < (t426.length : Int) := of_decide_eq_true (by first | (with_reducible assumption) | assumption); obtain ⟨ad429, e429, hx429_0⟩ := Kd.at_int (Kd.R_reads' HO_13.out).2.2 x14_3 p429 q429
                  cases e429
                  replace p429 := eq_true p429; replace q429 := eq_true q429; have p430 : 0 ≤ (x14_3 : Int) := of_decide_eq_true (by first | (with_reducible assumption) | assumption); have q430 : x14_3 < (t426.length : Int) := of_decide_eq_true (by first | (with_reducible assumption) | assumption); obtain ⟨ad430, e430, hx430_0⟩ := Kd.at_int (Kd.R_reads' HO_13.out).2.2 x14_3 p430 q430; obtain rfl : ad429 = ad430 := (by injection e430); replace p430 := eq_true p430; replace q430 := eq_true q430; have p431 : 0 ≤ (x14_3 : Int) := of_decide_eq_true (by first | (with_reducible assumption) | assumption); have q431 : x14_3 < (t426.length : Int) := of_decide_eq_true (by first | (with_reducible assumption) | assumption); obtain ⟨ad431, e431, hx431_0⟩ := Kd.at_int (Kd.R_reads' HO_13.out).2.2 x14_3 p431 q431; obtain rfl : ad429 = ad431 := (by injection e431); replace p431 := eq_true p431; replace q431 := eq_true q431; have p432 : 0 ≤ ((ji99) : Int) := of_decide_eq_true (by first | (with_reducible assumption) | assumption); have q432 : (ji99) < (t426.length : Int) := of_decide_eq_true (by first | (with_reducible assumption) | assumption); obtain ⟨ad432, e432, hx432_0⟩ := Kd.at_int (Kd.R_reads' HO_13.out).2.2 (ji99) p432 q432; obtain rfl : ad429 = ad432 := (by injection e432); replace p432 := eq_true p432; replace q432 := eq_true q432; refine start_ (n := 28) (S := fun w' => w'.cell? (ad429.add (x14_3).toNat) = some (.int .i64 (rd t426 x14_3)) ∧ w'.cell? (ad429.add (x14_3).toNat) = some (.int .i64 (rd t426 x14_3)) ∧ w'.cell? (ad429.add (x14_3).toNat) = some (.int .i64 (rd t426 x14_3)) ∧ w'.cell? (ad429.add ((ji99)).toNat) = some (.int .i64 (rd t426 (ji99)))) (ds := []) #[false, false, false, false, false, false, false, false, false, false, false, false, false, false, false, false, false, false, false, false, false, false, false, false, false, false, false, false] (by kernel_rfl) rfl rfl ⟨hx429_0, hx430_0, hx431_0, hx432_0⟩ (fun hHeld => ?_); refine with_tabW skiarealaw52_ClosureTargets.tab20 skiarealaw52_ClosureTargets.bits20 (fun HT_ HW_ => ?_)
                  generalize wr.drew = w104 at HO_13 BK407 BK408 HB hx429_0 hx430_0 hx431_0 hx432_0 hHeld ⊢
                  refine pure_ (i := 0) (N := some 110) (v := ?_) (a' := ?_) #[true, false, false, false, false, false, false, false, false, false, false, false, false, false, false, false, false, false, false, false, false, false, false, false, false, false, false, false] rfl rfl (any_of HT_.out (by kernel_rfl)) (fun _ _ _ h => h) (Or.inl ⟨by rfl, ?_⟩) ?_ ?_
                  rotate_left
                  ·
                   intro w'; go_simp
                   with_reducible rfl
                  rotate_left
                  ·
                   simp only [Act.put, List.setIfInBounds_toArray, List.set_cons_zero, List.set_cons_succ, i64_w, i32_w]; rfl
                  refine pure_ (i := 1) (N := some 111) (v := ?_) (a' := ?_) #[true, true, false, false, false, false, false, false, false, false, false, false, false, false, false, false, false, false, false, false, false, false, false, false, false, false, false, false] rfl rfl (any_of HT_.out (by kernel_rfl)) (fun _ _ _ h => h) (Or.inl ⟨by rfl, ?_⟩) ?_ ?_
                  rotate_left
                  ·
                   intro w'; go_simp
                   with_reducible rfl
                  rotate_left
                  ·
                   simp only [Act.put, List.setIfInBounds_toArray, List.set_cons_zero, List.set_cons_succ, i64_w, i32_w]; rfl
                  refine pure_ (i := 2) (N := some 112) (v := ?_) (a' := ?_) #[true, true, true, false, false, false, false, false, false, false, false, false, false, false, false, false, false, false, false, false, false, false, false, false, false, false, false, false] rfl rfl (any_of HT_.out (by kernel_rfl)) (fun _ _ _ h => h) (Or.inl ⟨by rfl, ?_⟩) ?_ ?_
                  rotate_left
                  ·
                   intro w'; go_simp
                   with_reducible rfl
                  rotate_left
                  ·
                   simp only [Act.put, List.setIfInBounds_toArray, List.set_cons_zero, List.set_cons_succ, i64_w, i32_w]; rfl
                  refine take_ (i := 3) (N := some 113) (v := ?_) (a' := ?_) #[true, true, true, true, false, false, false, false, false, false, false, false, false, false, false, false, false, false, false, false, false, false, false, false, false, false, false, false] rfl rfl (take_ofW HT_.out HW_.out (by kernel_rfl)) (fun _ _ _ h => h) (Or.inl ⟨by rfl, ?_⟩) hHeld ?_ ?_
                  rotate_left
                  ·
                   rintro w' ⟨s0, s1, s2, s3⟩; go_simp
                   with_reducible rfl
                  rotate_left
                  ·
                   simp only [Act.put, List.setIfInBounds_toArray, List.set_cons_zero, List.set_cons_succ, i64_w, i32_w]; rfl
                  refine pure_ (i := 4) (N := some 114) (v := ?_) (a' := ?_) #[true, true, true, true, true, false, false, false, false, false, false, false, false, false, false, false, false, false, false, false, false, false, false, false, false, false, false, false] rfl rfl (any_of HT_.out (by kernel_rfl)) (fun _ _ _ h => h) (Or.inl ⟨by rfl, ?_⟩) ?_ ?_
                  rotate_left
                  ·
                   intro w'; go_simp
                   with_reducible rfl
                  rotate_left
                  ·
                   simp only [Act.put, List.setIfInBounds_toArray, List.set_cons_zero, List.set_cons_succ, i64_w, i32_w]; rfl
                  refine pure_ (i := 5) (N := some 115) (v := ?_) (a' := ?_) #[true, true, true, true, true, true, false, false, false, false, false, false, false, false, false, false, false, false, false, false, false, false, false, false, false, false, false, false] rfl rfl (any_of HT_.out (by kernel_rfl)) (fun _ _ _ h => h) (Or.inl ⟨by rfl, ?_⟩) ?_ ?_
                  rotate_left
                  ·
                   intro w'; go_simp
                   with_reducible rfl
                  rotate_left
                  ·
                   simp only [Act.put, List.setIfInBounds_toArray, List.set_cons_zero, List.set_cons_succ, i64_w, i32_w]; rfl
                  refine pure_ (i := 6) (N := some 116) (v := ?_) (a' := ?_) #[true, true, true, true, true, true, true, false, false, false, false, false, false, false, false, false, false, false, false, false, false, false, false, false, false, false, false, false] rfl rfl (any_of HT_.out (by kernel_rfl)) (fun _ _ _ h => h) (Or.inl ⟨by rfl, ?_⟩) ?_ ?_
                  rotate_left
                  ·
                   intro w'; go_simp
                   with_reducible rfl
                  rotate_left
                  ·
                   simp only [Act.put, List.setIfInBounds_toArray, List.set_cons_zero, List.set_cons_succ, i64_w, i32_w]; rfl
                  refine pure_ (i := 7) (N := some 117) (v := ?_) (a' := ?_) #[true, true, true, true, true, true, true, true, false, false, false, false, false, false, false, false, false, false, false, false, false, false, false, false, false, false, false, false] rfl rfl (any_of HT_.out (by kernel_rfl)) (fun _ _ _ h => h) (Or.inl ⟨by rfl, ?_⟩) ?_ ?_
                  rotate_left
                  ·
                   intro w'; go_simp
                   with_reducible rfl
                  rotate_left
                  ·
                   simp only [Act.put, List.setIfInBounds_toArray, List.set_cons_zero, List.set_cons_succ, i64_w, i32_w]; rfl
                  refine pure_ (i := 8) (N := some 118) (v := ?_) (a' := ?_) #[true, true, true, true, true, true, true, true, true, false, false, false, false, false, false, false, false, false, false, false, false, false, false, false, false, false, false, false] rfl rfl (any_of HT_.out (by kernel_rfl)) (fun _ _ _ h => h) (Or.inl ⟨by rfl, ?_⟩) ?_ ?_
                  rotate_left
                  ·
                   intro w'; go_simp
                   with_reducible rfl
                  rotate_left
                  ·
                   simp only [Act.put, List.setIfInBounds_toArray, List.set_cons_zero, List.set_cons_succ, i64_w, i32_w]; rfl
                  refine take_ (i := 9) (N := some 119) (v := ?_) (a' := ?_) #[true, true, true, true, true, true, true, true, true, true, false, false, false, false, false, false, false, false, false, false, false, false, false, false, false, false, false, false] rfl rfl (take_ofW HT_.out HW_.out (by kernel_rfl)) (fun _ _ _ h => h) (Or.inl ⟨by rfl, ?_⟩) hHeld ?_ ?_
                  rotate_left
                  ·
                   rintro w' ⟨s0, s1, s2, s3⟩; go_simp
                   with_reducible rfl
                  rotate_left
                  ·
                   simp only [Act.put, List.setIfInBounds_toArray, List.set_cons_zero, List.set_cons_succ, i64_w, i32_w]; rfl
                  refine pure_ (i := 10) (N := some 120) (v := ?_) (a' := ?_) #[true, true, true, true, true, true, true, true, true, true, true, false, false, false, false, false, false, false, false, false, false, false, false, false, false, false, false, false] rfl rfl (any_of HT_.out (by kernel_rfl)) (fun _ _ _ h => h) (Or.inl ⟨by rfl, ?_⟩) ?_ ?_
                  rotate_left
                  ·
                   intro w'; go_simp
                   with_reducible rfl
                  rotate_left
                  ·
                   simp only [Act.put, List.setIfInBounds_toArray, List.set_cons_zero, List.set_cons_succ, i64_w, i32_w]; rfl
                  refine pure_ (i := 11) (N := some 121) (v := ?_) (a' := ?_) #[true, true, true, true, true, true, true, true, true, true, true, true, false, false, false, false, false, false, false, false, false, false, false, false, false, false, false, false] rfl rfl (any_of HT_.out (by kernel_rfl)) (fun _ _ _ h => h) (Or.inl ⟨by rfl, ?_⟩) ?_ ?_
                  rotate_left
                  ·
                   intro w'; go_simp
                   with_reducible rfl
                  rotate_left
                  ·
                   simp only [Act.put, List.setIfInBounds_toArray, List.set_cons_zero, List.set_cons_succ, i64_w, i32_w]; rfl
                  refine pure_ (i := 12) (N := some 122) (v := ?_) (a' := ?_) #[true, true, true, true, true, true, true, true, true, true, true, true, true, false, false, false, false, false, false, false, false, false, false, false, false, false, false, false] rfl rfl (any_of HT_.out (by kernel_rfl)) (fun _ _ _ h => h) (Or.inl ⟨by rfl, ?_⟩) ?_ ?_
                  rotate_left
                  ·
                   intro w'; go_simp
                   with_reducible rfl
                  rotate_left
                  ·
                   simp only [Act.put, List.setIfInBounds_toArray, List.set_cons_zero, List.set_cons_succ, i64_w, i32_w]; rfl
                  refine pure_ (i := 13) (N := some 123) (v := ?_) (a' := ?_) #[true, true, true, true, true, true, true, true, true, true, true, true, true, true, false, false, false, false, false, false, false, false, false, false, false, false, false, false] rfl rfl (any_of HT_.out (by kernel_rfl)) (fun _ _ _ h => h) (Or.inl ⟨by rfl, ?_⟩) ?_ ?_
                  rotate_left
                  ·
                   intro w'; go_simp
                   with_reducible rfl
                  rotate_left
                  ·
                   simp only [Act.put, List.setIfInBounds_toArray, List.set_cons_zero, List.set_cons_succ, i64_w, i32_w]; rfl
                  refine pure_ (i := 14) (N := some 124) (v := ?_) (a' := ?_) #[true, true, true, true, true, true, true, true, true, true, true, true, true, true, true, false, false, false, false, false, false, false, false, false, false, false, false, false] rfl rfl (any_of HT_.out (by kernel_rfl)) (fun _ _ _ h => h) (Or.inl ⟨by rfl, ?_⟩) ?_ ?_
                  rotate_left
                  ·
                   intro w'; go_simp
                   with_reducible rfl
                  rotate_left
                  ·
                   simp only [Act.put, List.setIfInBounds_toArray, List.set_cons_zero, List.set_cons_succ, i64_w, i32_w]; rfl
                  refine pure_ (i := 15) (N := some 125) (v := ?_) (a' := ?_) #[true, true, true, true, true, true, true, true, true, true, true, true, true, true, true, true, false, false, false, false, false, false, false, false, false, false, false, false] rfl rfl (any_of HT_.out (by kernel_rfl)) (fun _ _ _ h => h) (Or.inl ⟨by rfl, ?_⟩) ?_ ?_
                  rotate_left
                  ·
                   intro w'; go_simp
                   with_reducible rfl
                  rotate_left
                  ·
                   simp only [Act.put, List.setIfInBounds_toArray, List.set_cons_zero, List.set_cons_succ, i64_w, i32_w]; rfl
                  refine pure_ (i := 16) (N := some 126) (v := ?_) (a' := ?_) #[true, true, true, true, true, true, true, true, true, true, true, true, true, true, true, true, true, false, false, false, false, false, false, false, false, false, false, false] rfl rfl (any_of HT_.out (by kernel_rfl)) (fun _ _ _ h => h) (Or.inl ⟨by rfl, ?_⟩) ?_ ?_
                  rotate_left
                  ·
                   intro w'; go_simp
                   with_reducible rfl
                  rotate_left
                  ·
                   simp only [Act.put, List.setIfInBounds_toArray, List.set_cons_zero, List.set_cons_succ, i64_w, i32_w]; rfl
                  refine pure_ (i := 17) (N := some 127) (v := ?_) (a' := ?_) #[true, true, true, true, true, true, true, true, true, true, true, true, true, true, true, true, true, true, false, false, false, false, false, false, false, false, false, false] rfl rfl (any_of HT_.out (by kernel_rfl)) (fun _ _ _ h => h) (Or.inl ⟨by rfl, ?_⟩) ?_ ?_
                  rotate_left
                  ·
                   intro w'; go_simp
                   with_reducible rfl
                  rotate_left
                  ·
                   simp only [Act.put, List.setIfInBounds_toArray, List.set_cons_zero, List.set_cons_succ, i64_w, i32_w]; rfl
                  refine pure_ (i := 18) (N := some 128) (v := ?_) (a' := ?_) #[true, true, true, true, true, true, true, true, true, true, true, true, true, true, true, true, true, true, true, false, false, false, false, false, false, false, false, false] rfl rfl (any_of HT_.out (by kernel_rfl)) (fun _ _ _ h => h) (Or.inl ⟨by rfl, ?_⟩) ?_ ?_
                  rotate_left
                  ·
                   intro w'; go_simp
                   with_reducible rfl
                  rotate_left
                  ·
                   simp only [Act.put, List.setIfInBounds_toArray, List.set_cons_zero, List.set_cons_succ, i64_w, i32_w]; rfl
                  refine pure_ (i := 20) (N := some 130) (v := ?_) (a' := ?_) #[true, true, true, true, true, true, true, true, true, true, true, true, true, true, true, true, true, true, true, false, true, false, false, false, false, false, false, false] rfl rfl (any_of HT_.out (by kernel_rfl)) (fun _ _ _ h => h) (Or.inl ⟨by rfl, ?_⟩) ?_ ?_
                  rotate_left
                  ·
                   intro w'; go_simp
                   with_reducible rfl
                  rotate_left
                  ·
                   simp only [Act.put, List.setIfInBounds_toArray, List.set_cons_zero, List.set_cons_succ, i64_w, i32_w]; rfl
                  refine pure_ (i := 21) (N := some 131) (v := ?_) (a' := ?_) #[true, true, true, true, true, true, true, true, true, true, true, true, true, true, true, true, true, true, true, false, true, true, false, false, false, false, false, false] rfl rfl (any_of HT_.out (by kernel_rfl)) (fun _ _ _ h => h) (Or.inl ⟨by rfl, ?_⟩) ?_ ?_
                  rotate_left
                  ·
                   intro w'; go_simp
                   with_reducible rfl
                  rotate_left
                  ·
                   simp only [Act.put, List.setIfInBounds_toArray, List.set_cons_zero, List.set_cons_succ, i64_w, i32_w]; rfl
                  refine pure_ (i := 22) (N := some 132) (v := ?_) (a' := ?_) #[true, true, true, true, true, true, true, true, true, true, true, true, true, true, true, true, true, true, true, false, true, true, true, false, false, false, false, false] rfl rfl (any_of HT_.out (by kernel_rfl)) (fun _ _ _ h => h) (Or.inl ⟨by rfl, ?_⟩) ?_ ?_
                  rotate_left
                  ·
                   intro w'; go_simp
                   with_reducible rfl
                  rotate_left
                  ·
                   simp only [Act.put, List.setIfInBounds_toArray, List.set_cons_zero, List.set_cons_succ, i64_w, i32_w]; rfl
                  refine pure_ (i := 23) (N := some 133) (v := ?_) (a' := ?_) #[true, true, true, true, true, true, true, true, true, true, true, true, true, true, true, true, true, true, true, false, true, true, true, true, false, false, false, false] rfl rfl (any_of HT_.out (by kernel_rfl)) (fun _ _ _ h => h) (Or.inl ⟨by rfl, ?_⟩) ?_ ?_
                  rotate_left
                  ·
                   intro w'; go_simp
                   with_reducible rfl
                  rotate_left
                  ·
                   simp only [Act.put, List.setIfInBounds_toArray, List.set_cons_zero, List.set_cons_succ, i64_w, i32_w]; rfl
                  refine take_ (i := 19) (N := some 129) (v := ?_) (a' := ?_) #[true, true, true, true, true, true, true, true, true, true, true, true, true, true, true, true, true, true, true, true, true, true, true, true, false, false, false, false] rfl rfl (take_ofW HT_.out HW_.out (by kernel_rfl)) (fun _ _ _ h => h) (Or.inl ⟨by rfl, ?_⟩) hHeld ?_ ?_
                  rotate_left
                  ·
                   rintro w' ⟨s0, s1, s2, s3⟩; go_simp
                   with_reducible rfl
                  rotate_left
                  ·
                   simp only [Act.put, List.setIfInBounds_toArray, List.set_cons_zero, List.set_cons_succ, i64_w, i32_w]; rfl
                  refine take_ (i := 24) (N := some 134) (v := ?_) (a' := ?_) #[true, true, true, true, true, true, true, true, true, true, true, true, true, true, true, true, true, true, true, true, true, true, true, true, true, false, false, false] rfl rfl (take_ofW HT_.out HW_.out (by kernel_rfl)) (fun _ _ _ h => h) (Or.inl ⟨by rfl, ?_⟩) hHeld ?_ ?_
                  rotate_left
                  ·
                   rintro w' ⟨s0, s1, s2, s3⟩; go_simp
                   with_reducible rfl
                  rotate_left
                  ·
                   simp only [Act.put, List.setIfInBounds_toArray, List.set_cons_zero, List.set_cons_succ, i64_w, i32_w]; rfl
                  refine pure_ (i := 25) (N := some 135) (v := ?_) (a' := ?_) #[true, true, true, true, true, true, true, true, true, true, true, true, true, true, true, true, true, true, true, true, true, true, true, true, true, true, false, false] rfl rfl (any_of HT_.out (by kernel_rfl)) (fun _ _ _ h => h) (Or.inl ⟨by rfl, ?_⟩) ?_ ?_
                  rotate_left
                  ·
                   intro w'; go_simp
                   with_reducible rfl
                  rotate_left
                  ·
                   simp only [Act.put, List.setIfInBounds_toArray, List.set_cons_zero, List.set_cons_succ, i64_w, i32_w]; rfl
                  refine pure_ (i := 26) (N := some 136) (v := ?_) (a' := ?_) #[true, true, true, true, true, true, true, true, true, true, true, true, true, true, true, true, true, true, true, true, true, true, true, true, true, true, true, false] rfl rfl (any_of HT_.out (by kernel_rfl)) (fun _ _ _ h => h) (Or.inl ⟨by rfl, ?_⟩) ?_ ?_
                  rotate_left
                  ·
                   intro w'; go_simp
                   with_reducible rfl
                  rotate_left
                  ·
                   simp only [Act.put, List.setIfInBounds_toArray, List.set_cons_zero, List.set_cons_succ, i64_w, i32_w]; rfl
                  refine pure_ (i := 27) (N := some 137) (v := ?_) (a' := ?_) #[true, true, true, true, true, true, true, true, true, true, true, true, true, true, true, true, true, true, true, true, true, true, true, true, true, true, true, true] rfl rfl (any_of HT_.out (by kernel_rfl)) (fun _ _ _ h => h) (Or.inl ⟨by rfl, ?_⟩) ?_ ?_
                  rotate_left
                  ·
                   intro w'; go_simp
                   with_reducible rfl
                  rotate_left
                  ·
                   simp only [Act.put, List.setIfInBounds_toArray, List.set_cons_zero, List.set_cons_succ, i64_w, i32_w]; rfl
                  refine done_ (done_of HT_.out (by kernel_rfl)) ?_
                  try go_wp2
                  go_roundg k3
                  case measure => have := HJ5.out; have := HK2.out; have := HK3.out; omega
                  case rel => exact ⟨(wrap64 (x14_3 + 1)), (by first | rfl | (simp; done) | (simp [*]; done)), H', ⟨by have := HJ5.out; have := HK2.out; have := HK3.out; omega⟩, ⟨by (with_reducible repeat (first | apply Kd.rA_ | apply Kd.rN_ | apply Kd.rD_)); exact HO_13.out⟩, ⟨by (with_reducible repeat (first | refine bN_ ?_ _ | refine bD_ ?_ | refine bA_ ?_ _)); exact BK407.out⟩, ⟨by (with_reducible repeat (first | refine bN_ ?_ _ | refine bD_ ?_ | refine bA_ ?_ _)); exact BK408.out⟩, ⟨by repeat (first | (with_reducible first | exact HB.out | apply lA_ | apply lN_ | apply lD_ | refine lS_ ?_ GE407.out | refine lS_ ?_ GE408.out) | exact HB.out)⟩⟩
                ·
                 rw [if_neg c101] at H
                 exact absurd H (by simp)
               ·
                rw [if_neg c100] at H
                exact absurd H (by simp)
              ·
               rw [if_neg c98] at H
               have c98b0 : decide (0 < x14_3) = false := decide_eq_false c98; clear c98; have H' := Aside0.mk H; clear H; obtain ⟨Ao105, co105, eo105⟩ := Kd.R_slice HO_13.out; subst eo105; try go_wp2
               have n0_ := Aside0.mk (Kd.rD_ HO_13.out); have n1_ := Aside0.mk (bD_ BK407.out); have n2_ := Aside0.mk (bD_ BK408.out); have n3_ := Aside0.mk (lD_ HB.out); clear HO_13; clear BK407; clear BK408; clear HB; have HO_13 := n0_; have BK407 := n1_; have BK408 := n2_; have HB := n3_; clear n0_ n1_ n2_ n3_; have p429 : 0 ≤ (x14_3 : Int) := of_decide_eq_true (by first | (with_reducible assumption) | assumption); have q429 : x14_3 < (t426.length : Int) := of_decide_eq_true (by first | (with_reducible assumption) | assumption); obtain ⟨ad429, e429, hx429_0⟩ := Kd.at_int (Kd.R_reads' HO_13.out).2.2 x14_3 p429 q429
               cases e429
               replace p429 := eq_true p429; replace q429 := eq_true q429; have p430 : 0 ≤ (x14_3 : Int) := of_decide_eq_true (by first | (with_reducible assumption) | assumption); have q430 : x14_3 < (t426.length : Int) := of_decide_eq_true (by first | (with_reducible assumption) | assumption); obtain ⟨ad430, e430, hx430_0⟩ := Kd.at_int (Kd.R_reads' HO_13.out).2.2 x14_3 p430 q430; obtain rfl : ad429 = ad430 := (by injection e430); replace p430 := eq_true p430; replace q430 := eq_true q430; refine start_ (n := 28) (S := fun w' => w'.cell? (ad429.add (x14_3).toNat) = some (.int .i64 (rd t426 x14_3)) ∧ w'.cell? (ad429.add (x14_3).toNat) = some (.int .i64 (rd t426 x14_3))) (ds := []) #[false, false, false, false, false, false, false, false, false, false, false, false, false, false, false, false, false, false, false, false, false, false, false, false, false, false, false, false] (by kernel_rfl) rfl rfl ⟨hx429_0, hx430_0⟩ (fun hHeld => ?_); refine with_tabW skiarealaw52_ClosureTargets.tab20 skiarealaw52_ClosureTargets.bits20 (fun HT_ HW_ => ?_)
               generalize wr.drew = w106 at HO_13 BK407 BK408 HB hx429_0 hx430_0 hHeld ⊢
               refine pure_ (i := 0) (N := some 110) (v := ?_) (a' := ?_) #[true, false, false, false, false, false, false, false, false, false, false, false, false, false, false, false, false, false, false, false, false, false, false, false, false, false, false, false] rfl rfl (any_of HT_.out (by kernel_rfl)) (fun _ _ _ h => h) (Or.inl ⟨by rfl, ?_⟩) ?_ ?_
               rotate_left
               ·
                intro w'; go_simp
                with_reducible rfl
               rotate_left
               ·
                simp only [Act.put, List.setIfInBounds_toArray, List.set_cons_zero, List.set_cons_succ, i64_w, i32_w]; rfl
               refine pure_ (i := 1) (N := some 111) (v := ?_) (a' := ?_) #[true, true, false, false, false, false, false, false, false, false, false, false, false, false, false, false, false, false, false, false, false, false, false, false, false, false, false, false] rfl rfl (any_of HT_.out (by kernel_rfl)) (fun _ _ _ h => h) (Or.inl ⟨by rfl, ?_⟩) ?_ ?_
               rotate_left
               ·
                intro w'; go_simp
                with_reducible rfl
               rotate_left
               ·
                simp only [Act.put, List.setIfInBounds_toArray, List.set_cons_zero, List.set_cons_succ, i64_w, i32_w]; rfl
               refine pure_ (i := 2) (N := some 112) (v := ?_) (a' := ?_) #[true, true, true, false, false, false, false, false, false, false, false, false, false, false, false, false, false, false, false, false, false, false, false, false, false, false, false, false] rfl rfl (any_of HT_.out (by kernel_rfl)) (fun _ _ _ h => h) (Or.inl ⟨by rfl, ?_⟩) ?_ ?_
               rotate_left
               ·
                intro w'; go_simp
                with_reducible rfl
               rotate_left
               ·
                simp only [Act.put, List.setIfInBounds_toArray, List.set_cons_zero, List.set_cons_succ, i64_w, i32_w]; rfl
               refine take_ (i := 3) (N := some 113) (v := ?_) (a' := ?_) #[true, true, true, true, false, false, false, false, false, false, false, false, false, false, false, false, false, false, false, false, false, false, false, false, false, false, false, false] rfl rfl (take_ofW HT_.out HW_.out (by kernel_rfl)) (fun _ _ _ h => h) (Or.inl ⟨by rfl, ?_⟩) hHeld ?_ ?_
               rotate_left
               ·
                rintro w' ⟨s0, s1⟩; go_simp
                with_reducible rfl
               rotate_left
               ·
                simp only [Act.put, List.setIfInBounds_toArray, List.set_cons_zero, List.set_cons_succ, i64_w, i32_w]; rfl
               refine pure_ (i := 4) (N := some 114) (v := ?_) (a' := ?_) #[true, true, true, true, true, false, false, false, false, false, false, false, false, false, false, false, false, false, false, false, false, false, false, false, false, false, false, false] rfl rfl (any_of HT_.out (by kernel_rfl)) (fun _ _ _ h => h) (Or.inl ⟨by rfl, ?_⟩) ?_ ?_
               rotate_left
               ·
                intro w'; go_simp
                with_reducible rfl
               rotate_left
               ·
                simp only [Act.put, List.setIfInBounds_toArray, List.set_cons_zero, List.set_cons_succ, i64_w, i32_w]; rfl
               refine pure_ (i := 5) (N := some 115) (v := ?_) (a' := ?_) #[true, true, true, true, true, true, false, false, false, false, false, false, false, false, false, false, false, false, false, false, false, false, false, false, false, false, false, false] rfl rfl (any_of HT_.out (by kernel_rfl)) (fun _ _ _ h => h) (Or.inl ⟨by rfl, ?_⟩) ?_ ?_
               rotate_left
               ·
                intro w'; go_simp
                with_reducible rfl
               rotate_left
               ·
                simp only [Act.put, List.setIfInBounds_toArray, List.set_cons_zero, List.set_cons_succ, i64_w, i32_w]; rfl
               refine pure_ (i := 6) (N := some 116) (v := ?_) (a' := ?_) #[true, true, true, true, true, true, true, false, false, false, false, false, false, false, false, false, false, false, false, false, false, false, false, false, false, false, false, false] rfl rfl (any_of HT_.out (by kernel_rfl)) (fun _ _ _ h => h) (Or.inl ⟨by rfl, ?_⟩) ?_ ?_
               rotate_left
               ·
                intro w'; go_simp
                with_reducible rfl
               rotate_left
               ·
                simp only [Act.put, List.setIfInBounds_toArray, List.set_cons_zero, List.set_cons_succ, i64_w, i32_w]; rfl
               refine pure_ (i := 7) (N := some 117) (v := ?_) (a' := ?_) #[true, true, true, true, true, true, true, true, false, false, false, false, false, false, false, false, false, false, false, false, false, false, false, false, false, false, false, false] rfl rfl (any_of HT_.out (by kernel_rfl)) (fun _ _ _ h => h) (Or.inl ⟨by rfl, ?_⟩) ?_ ?_
               rotate_left
               ·
                intro w'; go_simp
                with_reducible rfl
               rotate_left
               ·
                simp only [Act.put, List.setIfInBounds_toArray, List.set_cons_zero, List.set_cons_succ, i64_w, i32_w]; rfl
               refine pure_ (i := 8) (N := some 118) (v := ?_) (a' := ?_) #[true, true, true, true, true, true, true, true, true, false, false, false, false, false, false, false, false, false, false, false, false, false, false, false, false, false, false, false] rfl rfl (any_of HT_.out (by kernel_rfl)) (fun _ _ _ h => h) (Or.inl ⟨by rfl, ?_⟩) ?_ ?_
               rotate_left
               ·
                intro w'; go_simp
                with_reducible rfl
               rotate_left
               ·
                simp only [Act.put, List.setIfInBounds_toArray, List.set_cons_zero, List.set_cons_succ, i64_w, i32_w]; rfl
               refine take_ (i := 9) (N := some 119) (v := ?_) (a' := ?_) #[true, true, true, true, true, true, true, true, true, true, false, false, false, false, false, false, false, false, false, false, false, false, false, false, false, false, false, false] rfl rfl (take_ofW HT_.out HW_.out (by kernel_rfl)) (fun _ _ _ h => h) (Or.inl ⟨by rfl, ?_⟩) hHeld ?_ ?_
               rotate_left
               ·
                rintro w' ⟨s0, s1⟩; go_simp
                with_reducible rfl
               rotate_left
               ·
                simp only [Act.put, List.setIfInBounds_toArray, List.set_cons_zero, List.set_cons_succ, i64_w, i32_w]; rfl
               refine pure_ (i := 10) (N := some 120) (v := ?_) (a' := ?_) #[true, true, true, true, true, true, true, true, true, true, true, false, false, false, false, false, false, false, false, false, false, false, false, false, false, false, false, false] rfl rfl (any_of HT_.out (by kernel_rfl)) (fun _ _ _ h => h) (Or.inl ⟨by rfl, ?_⟩) ?_ ?_
               rotate_left
               ·
                intro w'; go_simp
                with_reducible rfl
               rotate_left
               ·
                simp only [Act.put, List.setIfInBounds_toArray, List.set_cons_zero, List.set_cons_succ, i64_w, i32_w]; rfl
               refine pure_ (i := 11) (N := some 121) (v := ?_) (a' := ?_) #[true, true, true, true, true, true, true, true, true, true, true, true, false, false, false, false, false, false, false, false, false, false, false, false, false, false, false, false] rfl rfl (any_of HT_.out (by kernel_rfl)) (fun _ _ _ h => h) (Or.inl ⟨by rfl, ?_⟩) ?_ ?_
               rotate_left
               ·
                intro w'; go_simp
                with_reducible rfl
               rotate_left
               ·
                simp only [Act.put, List.setIfInBounds_toArray, List.set_cons_zero, List.set_cons_succ, i64_w, i32_w]; rfl
               refine pure_ (i := 12) (N := some 122) (v := ?_) (a' := ?_) #[true, true, true, true, true, true, true, true, true, true, true, true, true, false, false, false, false, false, false, false, false, false, false, false, false, false, false, false] rfl rfl (any_of HT_.out (by kernel_rfl)) (fun _ _ _ h => h) (Or.inl ⟨by rfl, ?_⟩) ?_ ?_
               rotate_left
               ·
                intro w'; go_simp
                with_reducible rfl
               rotate_left
               ·
                simp only [Act.put, List.setIfInBounds_toArray, List.set_cons_zero, List.set_cons_succ, i64_w, i32_w]; rfl
               refine pure_ (i := 13) (N := some 123) (v := ?_) (a' := ?_) #[true, true, true, true, true, true, true, true, true, true, true, true, true, true, false, false, false, false, false, false, false, false, false, false, false, false, false, false] rfl rfl (any_of HT_.out (by kernel_rfl)) (fun _ _ _ h => h) (Or.inl ⟨by rfl, ?_⟩) ?_ ?_
               rotate_left
               ·
                intro w'; go_simp
                with_reducible rfl
               rotate_left
               ·
                simp only [Act.put, List.setIfInBounds_toArray, List.set_cons_zero, List.set_cons_succ, i64_w, i32_w]; rfl
               refine pure_ (i := 14) (N := some 124) (v := ?_) (a' := ?_) #[true, true, true, true, true, true, true, true, true, true, true, true, true, true, true, false, false, false, false, false, false, false, false, false, false, false, false, false] rfl rfl (any_of HT_.out (by kernel_rfl)) (fun _ _ _ h => h) (Or.inl ⟨by rfl, ?_⟩) ?_ ?_
               rotate_left
               ·
                intro w'; go_simp
                with_reducible rfl
               rotate_left
               ·
                simp only [Act.put, List.setIfInBounds_toArray, List.set_cons_zero, List.set_cons_succ, i64_w, i32_w]; rfl
               refine pure_ (i := 15) (N := some 125) (v := ?_) (a' := ?_) #[true, true, true, true, true, true, true, true, true, true, true, true, true, true, true, true, false, false, false, false, false, false, false, false, false, false, false, false] rfl rfl (any_of HT_.out (by kernel_rfl)) (fun _ _ _ h => h) (Or.inl ⟨by rfl, ?_⟩) ?_ ?_
               rotate_left
               ·
                intro w'; go_simp
                with_reducible rfl
               rotate_left
               ·
                simp only [Act.put, List.setIfInBounds_toArray, List.set_cons_zero, List.set_cons_succ, i64_w, i32_w]; rfl
               refine pure_ (i := 16) (N := some 126) (v := undef) (a' := ?_) #[true, true, true, true, true, true, true, true, true, true, true, true, true, true, true, true, true, false, false, false, false, false, false, false, false, false, false, false] rfl rfl (any_of HT_.out (by kernel_rfl)) (fun _ _ _ h => h) (Or.inr ⟨by rfl, rfl⟩) ?_ ?_
               rotate_left
               ·
                simp only [Act.put, List.setIfInBounds_toArray, List.set_cons_zero, List.set_cons_succ, i64_w, i32_w]; rfl
               refine pure_ (i := 17) (N := some 127) (v := undef) (a' := ?_) #[true, true, true, true, true, true, true, true, true, true, true, true, true, true, true, true, true, true, false, false, false, false, false, false, false, false, false, false] rfl rfl (any_of HT_.out (by kernel_rfl)) (fun _ _ _ h => h) (Or.inr ⟨by rfl, rfl⟩) ?_ ?_
               rotate_left
               ·
                simp only [Act.put, List.setIfInBounds_toArray, List.set_cons_zero, List.set_cons_succ, i64_w, i32_w]; rfl
               refine pure_ (i := 18) (N := some 128) (v := undef) (a' := ?_) #[true, true, true, true, true, true, true, true, true, true, true, true, true, true, true, true, true, true, true, false, false, false, false, false, false, false, false, false] rfl rfl (any_of HT_.out (by kernel_rfl)) (fun _ _ _ h => h) (Or.inr ⟨by rfl, rfl⟩) ?_ ?_
               rotate_left
               ·
                simp only [Act.put, List.setIfInBounds_toArray, List.set_cons_zero, List.set_cons_succ, i64_w, i32_w]; rfl
               refine pure_ (i := 19) (N := some 129) (v := undef) (a' := ?_) #[true, true, true, true, true, true, true, true, true, true, true, true, true, true, true, true, true, true, true, true, false, false, false, false, false, false, false, false] rfl rfl (any_of HT_.out (by kernel_rfl)) (fun _ _ _ h => h) (Or.inr ⟨by rfl, rfl⟩) ?_ ?_
               rotate_left
               ·
                simp only [Act.put, List.setIfInBounds_toArray, List.set_cons_zero, List.set_cons_succ, i64_w, i32_w]; rfl
               refine pure_ (i := 20) (N := some 130) (v := undef) (a' := ?_) #[true, true, true, true, true, true, true, true, true, true, true, true, true, true, true, true, true, true, true, true, true, false, false, false, false, false, false, false] rfl rfl (any_of HT_.out (by kernel_rfl)) (fun _ _ _ h => h) (Or.inr ⟨by rfl, rfl⟩) ?_ ?_
               rotate_left
               ·
                simp only [Act.put, List.setIfInBounds_toArray, List.set_cons_zero, List.set_cons_succ, i64_w, i32_w]; rfl
               refine pure_ (i := 21) (N := some 131) (v := undef) (a' := ?_) #[true, true, true, true, true, true, true, true, true, true, true, true, true, true, true, true, true, true, true, true, true, true, false, false, false, false, false, false] rfl rfl (any_of HT_.out (by kernel_rfl)) (fun _ _ _ h => h) (Or.inr ⟨by rfl, rfl⟩) ?_ ?_
               rotate_left
               ·
                simp only [Act.put, List.setIfInBounds_toArray, List.set_cons_zero, List.set_cons_succ, i64_w, i32_w]; rfl
               refine pure_ (i := 22) (N := some 132) (v := undef) (a' := ?_) #[true, true, true, true, true, true, true, true, true, true, true, true, true, true, true, true, true, true, true, true, true, true, true, false, false, false, false, false] rfl rfl (any_of HT_.out (by kernel_rfl)) (fun _ _ _ h => h) (Or.inr ⟨by rfl, rfl⟩) ?_ ?_
               rotate_left
               ·
                simp only [Act.put, List.setIfInBounds_toArray, List.set_cons_zero, List.set_cons_succ, i64_w, i32_w]; rfl
               refine pure_ (i := 23) (N := some 133) (v := undef) (a' := ?_) #[true, true, true, true, true, true, true, true, true, true, true, true, true, true, true, true, true, true, true, true, true, true, true, true, false, false, false, false] rfl rfl (any_of HT_.out (by kernel_rfl)) (fun _ _ _ h => h) (Or.inr ⟨by rfl, rfl⟩) ?_ ?_
               rotate_left
               ·
                simp only [Act.put, List.setIfInBounds_toArray, List.set_cons_zero, List.set_cons_succ, i64_w, i32_w]; rfl
               refine pure_ (i := 24) (N := some 134) (v := undef) (a' := ?_) #[true, true, true, true, true, true, true, true, true, true, true, true, true, true, true, true, true, true, true, true, true, true, true, true, true, false, false, false] rfl rfl (any_of HT_.out (by kernel_rfl)) (fun _ _ _ h => h) (Or.inr ⟨by rfl, rfl⟩) ?_ ?_
               rotate_left
               ·
                simp only [Act.put, List.setIfInBounds_toArray, List.set_cons_zero, List.set_cons_succ, i64_w, i32_w]; rfl
               refine pure_ (i := 25) (N := some 135) (v := undef) (a' := ?_) #[true, true, true, true, true, true, true, true, true, true, true, true, true, true, true, true, true, true, true, true, true, true, true, true, true, true, false, false] rfl rfl (any_of HT_.out (by kernel_rfl)) (fun _ _ _ h => h) (Or.inr ⟨by rfl, rfl⟩) ?_ ?_
               rotate_left
               ·
                simp only [Act.put, List.setIfInBounds_toArray, List.set_cons_zero, List.set_cons_succ, i64_w, i32_w]; rfl
               refine pure_ (i := 26) (N := some 136) (v := ?_) (a' := ?_) #[true, true, true, true, true, true, true, true, true, true, true, true, true, true, true, true, true, true, true, true, true, true, true, true, true, true, true, false] rfl rfl (any_of HT_.out (by kernel_rfl)) (fun _ _ _ h => h) (Or.inl ⟨by rfl, ?_⟩) ?_ ?_
               rotate_left
               ·
                intro w'; go_simp
                with_reducible rfl
               rotate_left
               ·
                simp only [Act.put, List.setIfInBounds_toArray, List.set_cons_zero, List.set_cons_succ, i64_w, i32_w]; rfl
               refine pure_ (i := 27) (N := some 137) (v := ?_) (a' := ?_) #[true, true, true, true, true, true, true, true, true, true, true, true, true, true, true, true, true, true, true, true, true, true, true, true, true, true, true, true] rfl rfl (any_of HT_.out (by kernel_rfl)) (fun _ _ _ h => h) (Or.inl ⟨by rfl, ?_⟩) ?_ ?_
               rotate_left
               ·
                intro w'; go_simp
                with_reducible rfl
               rotate_left
               ·
                simp only [Act.put, List.setIfInBounds_toArray, List.set_cons_zero, List.set_cons_succ, i64_w, i32_w]; rfl
               refine done_ (done_of HT_.out (by kernel_rfl)) ?_
               try go_wp2
               go_roundg k3
               case measure => have := HJ5.out; have := HK2.out; have := HK3.out; omega
               case rel => exact ⟨(wrap64 (x14_3 + 1)), (by first | rfl | (simp; done) | (simp [*]; done)), H', ⟨by have := HJ5.out; have := HK2.out; have := HK3.out; omega⟩, ⟨by (with_reducible repeat (first | apply Kd.rA_ | apply Kd.rN_ | apply Kd.rD_)); exact HO_13.out⟩, ⟨by (with_reducible repeat (first | refine bN_ ?_ _ | refine bD_ ?_ | refine bA_ ?_ _)); exact BK407.out⟩, ⟨by (with_reducible repeat (first | refine bN_ ?_ _ | refine bD_ ?_ | refine bA_ ?_ _)); exact BK408.out⟩, ⟨by repeat (first | (with_reducible first | exact HB.out | apply lA_ | apply lN_ | apply lD_ | refine lS_ ?_ GE407.out | refine lS_ ?_ GE408.out) | exact HB.out)⟩⟩
           ·
            rw [if_neg c95] at H
            exact absurd H (by simp)
          ·
           rw [if_neg c94] at H
           have c94b0 : decide (x14_3 < (t426.length : Int)) = false := decide_eq_false c94; clear c94; replace H := Option.bind_eq_some_iff.mp H; obtain ⟨t433, A1070, H⟩ := H; replace H : ((closure_Of.f k3 l1 2 a2_1).bind fun t434 => (if (t433 == (decide ((t434.length : Int) > 0))) = true then ((closure_Of.f k3 ([] : List (S28)) a2_0 a2_1).bind fun t437 => (some ((t437.length : Int) == 0))) else (none))) = some r := H; have A107 := Aside0.mk A1070; clear A1070; replace H := Option.bind_eq_some_iff.mp H; obtain ⟨t434, A1080, H⟩ := H; replace H : (if (t433 == (decide ((t434.length : Int) > 0))) = true then ((closure_Of.f k3 ([] : List (S28)) a2_0 a2_1).bind fun t437 => (some ((t437.length : Int) == 0))) else (none)) = some r := H; have A108 := Aside0.mk A1080; clear A1080; by_cases c109 : (t433 == (decide ((t434.length : Int) > 0))) = true
           ·
            rw [if_pos c109] at H
            have c109b0 : (t433 == (decide ((t434.length : Int) > 0))) = true := c109; try (have c109b3 : (t433 == decide (0 < t434.length)) = true := by simpa using c109)
            (try (have c109b1 : decide (t433 = (decide ((t434.length : Int) > 0))) = true := by simpa using c109))
            (try (have c109b2 : (t433 == (decide ((t434.length : Int) > 0))) = true := by simpa using c109))
            clear c109; replace H := Option.bind_eq_some_iff.mp H; obtain ⟨t437, A1100, H⟩ := H; replace H : (some ((t437.length : Int) == 0)) = some r := H; have A110 := Aside0.mk A1100; clear A1100; obtain rfl := Option.some.inj H; obtain ⟨Ao111, co111, eo111⟩ := Kd.R_slice HO_13.out; subst eo111; try go_wp2
            have n0_ := Aside0.mk (Kd.rD_ HO_13.out); have n1_ := Aside0.mk (bD_ BK407.out); have n2_ := Aside0.mk (bD_ BK408.out); have n3_ := Aside0.mk (lD_ HB.out); clear HO_13; clear BK407; clear BK408; clear HB; have HO_13 := n0_; have BK407 := n1_; have BK408 := n2_; have HB := n3_; clear n0_ n1_ n2_ n3_; refine start_ (n := 21) (S := fun w' => w'.cell? ⟨gb408, 0, none⟩ = some (.int .i64 a2_0) ∧ w'.cell? ⟨gb408, 1, none⟩ = some (.int .i64 a2_1) ∧ w'.cell? ⟨gb408, 2, none⟩ = some (.int .i64 a2_2) ∧ w'.cell? ⟨gb408, 3, none⟩ = some (.int .i64 a2_3)) (ds := []) #[false, false, false, false, false, false, false, false, false, false, false, false, false, false, false, false, false, false, false, false, false] (by kernel_rfl) rfl rfl ⟨(blk_cell BK408.out 0).trans rfl, (blk_cell BK408.out 1).trans rfl, (blk_cell BK408.out 2).trans rfl, (blk_cell BK408.out 3).trans rfl⟩ (fun hHeld => ?_); refine with_tabW skiarealaw52_ClosureTargets.tab22 skiarealaw52_ClosureTargets.bits22 (fun HT_ HW_ => ?_)
            generalize wr.drew = w112 at HO_13 BK407 BK408 HB hHeld ⊢
            refine pure_ (i := 0) (N := some 138) (v := ?_) (a' := ?_) #[true, false, false, false, false, false, false, false, false, false, false, false, false, false, false, false, false, false, false, false, false] rfl rfl (any_of HT_.out (by kernel_rfl)) (fun _ _ _ h => h) (Or.inl ⟨by rfl, ?_⟩) ?_ ?_
            rotate_left
            ·
             intro w'; go_simp
             with_reducible rfl
            rotate_left
            ·
             simp only [Act.put, List.setIfInBounds_toArray, List.set_cons_zero, List.set_cons_succ, i64_w, i32_w]; rfl
            refine pure_ (i := 1) (N := some 139) (v := ?_) (a' := ?_) #[true, true, false, false, false, false, false, false, false, false, false, false, false, false, false, false, false, false, false, false, false] rfl rfl (any_of HT_.out (by kernel_rfl)) (fun _ _ _ h => h) (Or.inl ⟨by rfl, ?_⟩) ?_ ?_
            rotate_left
            ·
             intro w'; go_simp
             with_reducible rfl
            rotate_left
            ·
             simp only [Act.put, List.setIfInBounds_toArray, List.set_cons_zero, List.set_cons_succ, i64_w, i32_w]; rfl
            refine pure_ (i := 4) (N := some 142) (v := ?_) (a' := ?_) #[true, true, false, false, true, false, false, false, false, false, false, false, false, false, false, false, false, false, false, false, false] rfl rfl (any_of HT_.out (by kernel_rfl)) (fun _ _ _ h => h) (Or.inl ⟨by rfl, ?_⟩) ?_ ?_
            rotate_left
            ·
             intro w'; go_simp
             with_reducible rfl
            rotate_left
            ·
             simp only [Act.put, List.setIfInBounds_toArray, List.set_cons_zero, List.set_cons_succ, i64_w, i32_w]; rfl
            refine pure_ (i := 5) (N := some 143) (v := ?_) (a' := ?_) #[true, true, false, false, true, true, false, false, false, false, false, false, false, false, false, false, false, false, false, false, false] rfl rfl (any_of HT_.out (by kernel_rfl)) (fun _ _ _ h => h) (Or.inl ⟨by rfl, ?_⟩) ?_ ?_
            rotate_left
            ·
             intro w'; go_simp
             with_reducible rfl
            rotate_left
            ·
             simp only [Act.put, List.setIfInBounds_toArray, List.set_cons_zero, List.set_cons_succ, i64_w, i32_w]; rfl
            refine take_ (i := 2) (N := some 140) (v := ?_) (a' := ?_) #[true, true, true, false, true, true, false, false, false, false, false, false, false, false, false, false, false, false, false, false, false] rfl rfl (take_ofW HT_.out HW_.out (by kernel_rfl)) (fun _ _ _ h => h) (Or.inl ⟨by rfl, ?_⟩) hHeld ?_ ?_
            rotate_left
            ·
             rintro w' ⟨s0, s1, s2, s3⟩; go_simp
             with_reducible rfl
            rotate_left
            ·
             simp only [Act.put, List.setIfInBounds_toArray, List.set_cons_zero, List.set_cons_succ, i64_w, i32_w]; rfl
            refine take_ (i := 6) (N := some 144) (v := ?_) (a' := ?_) #[true, true, true, false, true, true, true, false, false, false, false, false, false, false, false, false, false, false, false, false, false] rfl rfl (take_ofW HT_.out HW_.out (by kernel_rfl)) (fun _ _ _ h => h) (Or.inl ⟨by rfl, ?_⟩) hHeld ?_ ?_
            rotate_left
            ·
             rintro w' ⟨s0, s1, s2, s3⟩; go_simp
             with_reducible rfl
            rotate_left
            ·
             simp only [Act.put, List.setIfInBounds_toArray, List.set_cons_zero, List.set_cons_succ, i64_w, i32_w]; rfl
            refine one_ (i := 3) (N := some 141) #[true, true, true, true, true, true, true, false, false, false, false, false, false, false, false, false, false, false, false, false, false] rfl rfl (one_of HT_.out (by kernel_rfl)) (by decide) (fun K hK => ?_)
            refine goes_ Try.func24 (by kernel_rfl) rfl #[.slice A1 l1.length c1, .int .i64 a2_1] (by rfl) rfl rfl (by (try simp only [List.map_toArray, List.map_cons, List.map_nil]); first | done | rfl | (simp only [List.length_drop, List.length_take]; rfl)) ?_
            with_reducible refine (closure_Lift.calls _ _ l1 a2_1 t433 _ ?side1 ?side2 A107.out).mono ?_
            (case side1 => repeat (first | exact (Kd.C_below HR1.out HB.out) | (with_reducible refine Kd.cA_ ?_ _) | (with_reducible refine Kd.cN_ ?_ _) | (with_reducible refine Kd.cD_ ?_))); (case side2 => exact HC1.out); rintro e w113 ⟨rfl, hb⟩; refine ⟨_, rfl, ?_⟩
            have n0_ := Aside0.mk (Kd.R_below (by (with_reducible repeat (first | apply Kd.rA_ | apply Kd.rN_ | apply Kd.rD_)); exact HO_13.out) hb); have n1_ := Aside0.mk (blk_below (g := gb407) (o := .cells #[.slice A0_0 l0_0.length c0_0, .slice A0_1 l0_1.length c0_1, .slice A0_2 l0_2.length c0_2, .slice A0_3 l0_3.length c0_3] 41 (0, 0)) (by (with_reducible repeat (first | refine bN_ ?_ _ | refine bD_ ?_ | refine bA_ ?_ _)); exact BK407.out) hb); have n2_ := Aside0.mk (blk_below (g := gb408) (o := .cells #[.int .i64 a2_0, .int .i64 a2_1, .int .i64 a2_2, .int .i64 a2_3] 28 (0, 0)) (by (with_reducible repeat (first | refine bN_ ?_ _ | refine bD_ ?_ | refine bA_ ?_ _)); exact BK408.out) hb); have n3_ := Aside0.mk (below_step (by repeat (first | (with_reducible first | exact HB.out | apply lA_ | apply lN_ | apply lD_ | refine lS_ ?_ GE407.out | refine lS_ ?_ GE408.out) | exact HB.out)) hb); clear HO_13; clear BK407; clear BK408; clear HB; have HO_13 := n0_; have BK407 := n1_; have BK408 := n2_; have HB := n3_; clear n0_ n1_ n2_ n3_; (try clear hb); (try clear hb2); (try clear hk); (try clear hi); refine hK.out _ _ ⟨(blk_cell BK408.out 0).trans rfl, (blk_cell BK408.out 1).trans rfl, (blk_cell BK408.out 2).trans rfl, (blk_cell BK408.out 3).trans rfl⟩ (fun hHeld => ?_)
            clear hK K; refine norm_ (a' := ?_) ?_ ?_
            rotate_left
            ·
             show Act.put _ (some 141) _ = _
             simp only [Act.put, List.setIfInBounds_toArray, List.set_cons_zero, List.set_cons_succ, i64_w, i32_w]; rfl
            refine one_ (i := 7) (N := some 145) #[true, true, true, true, true, true, true, true, false, false, false, false, false, false, false, false, false, false, false, false, false] rfl rfl (one_of HT_.out (by kernel_rfl)) (by decide) (fun K hK => ?_)
            refine goes_ Try.func20 (by kernel_rfl) rfl #[.slice A1 l1.length c1, .int .i64 2, .int .i64 a2_1] (by rfl) rfl rfl (by (try simp only [List.map_toArray, List.map_cons, List.map_nil]); first | done | rfl | (simp only [List.length_drop, List.length_take]; rfl)) ?_
            with_reducible refine (closure_Of.calls k3 _ _ l1 2 a2_1 t434 _ ?side1 ?side2 A108.out).mono ?_
            (case side1 => repeat (first | exact (Kd.C_below HR1.out HB.out) | (with_reducible refine Kd.cA_ ?_ _) | (with_reducible refine Kd.cN_ ?_ _) | (with_reducible refine Kd.cD_ ?_))); (case side2 => exact HC1.out); rintro e w114 ⟨v435, rfl, ho0, hb⟩; refine ⟨_, rfl, ?_⟩
            have n0_ := Aside0.mk (Kd.R_elder' (by (with_reducible repeat (first | apply Kd.rA_ | apply Kd.rN_ | apply Kd.rD_)); exact HO_13.out) (Kd.R_base ho0) hb); have n1_ := Aside0.mk (Kd.R_lower (Kd.R_new' ho0 (Kd.R_lt (by (with_reducible repeat (first | apply Kd.rA_ | apply Kd.rN_ | apply Kd.rD_)); exact HO_13.out))) (below_size (by repeat (first | (with_reducible first | exact HB.out | apply lA_ | apply lN_ | apply lD_ | refine lS_ ?_ GE407.out | refine lS_ ?_ GE408.out) | exact HB.out)))); have n2_ := Aside0.mk (blk_below (g := gb407) (o := .cells #[.slice A0_0 l0_0.length c0_0, .slice A0_1 l0_1.length c0_1, .slice A0_2 l0_2.length c0_2, .slice A0_3 l0_3.length c0_3] 41 (0, 0)) (by (with_reducible repeat (first | refine bN_ ?_ _ | refine bD_ ?_ | refine bA_ ?_ _)); exact BK407.out) hb); have n3_ := Aside0.mk (blk_below (g := gb408) (o := .cells #[.int .i64 a2_0, .int .i64 a2_1, .int .i64 a2_2, .int .i64 a2_3] 28 (0, 0)) (by (with_reducible repeat (first | refine bN_ ?_ _ | refine bD_ ?_ | refine bA_ ?_ _)); exact BK408.out) hb); have n4_ := Aside0.mk (below_step (by repeat (first | (with_reducible first | exact HB.out | apply lA_ | apply lN_ | apply lD_ | refine lS_ ?_ GE407.out | refine lS_ ?_ GE408.out) | exact HB.out)) hb); clear HO_13; clear BK407; clear BK408; clear HB; have HO_13 := n0_; have HO436 := n1_; have BK407 := n2_; have BK408 := n3_; have HB := n4_; clear n0_ n1_ n2_ n3_ n4_; (try clear hb); (try clear hb2); (try clear hk); (try clear hi); (try clear ho0); obtain ⟨Ao115, co115, eo115⟩ := Kd.R_slice HO436.out; (first | subst eo115 | (injection eo115 with f1_ f2_ f3_; have f4_ := f1_.symm; have f5_ := f3_.symm; clear f1_ f2_ f3_; subst f4_; subst f5_))
            refine hK.out _ _ ⟨(blk_cell BK408.out 0).trans rfl, (blk_cell BK408.out 1).trans rfl, (blk_cell BK408.out 2).trans rfl, (blk_cell BK408.out 3).trans rfl⟩ (fun hHeld => ?_)
            clear hK K; refine norm_ (a' := ?_) ?_ ?_
            rotate_left
            ·
             show Act.put _ (some 145) _ = _
             simp only [Act.put, List.setIfInBounds_toArray, List.set_cons_zero, List.set_cons_succ, i64_w, i32_w]; rfl
            refine pure_ (i := 8) (N := some 146) (v := ?_) (a' := ?_) #[true, true, true, true, true, true, true, true, true, false, false, false, false, false, false, false, false, false, false, false, false] rfl rfl (any_of HT_.out (by kernel_rfl)) (fun _ _ _ h => h) (Or.inl ⟨by rfl, ?_⟩) ?_ ?_
            rotate_left
            ·
             intro w'; go_simp
             with_reducible rfl
            rotate_left
            ·
             simp only [Act.put, List.setIfInBounds_toArray, List.set_cons_zero, List.set_cons_succ, i64_w, i32_w]; rfl
            refine pure_ (i := 9) (N := some 147) (v := ?_) (a' := ?_) #[true, true, true, true, true, true, true, true, true, true, false, false, false, false, false, false, false, false, false, false, false] rfl rfl (any_of HT_.out (by kernel_rfl)) (fun _ _ _ h => h) (Or.inl ⟨by rfl, ?_⟩) ?_ ?_
            rotate_left
            ·
             intro w'; go_simp
             with_reducible rfl
            rotate_left
            ·
             simp only [Act.put, List.setIfInBounds_toArray, List.set_cons_zero, List.set_cons_succ, i64_w, i32_w]; rfl
            refine pure_ (i := 10) (N := some 148) (v := ?_) (a' := ?_) #[true, true, true, true, true, true, true, true, true, true, true, false, false, false, false, false, false, false, false, false, false] rfl rfl (any_of HT_.out (by kernel_rfl)) (fun _ _ _ h => h) (Or.inl ⟨by rfl, ?_⟩) ?_ ?_
            rotate_left
            ·
             intro w'; go_simp
             with_reducible rfl
            rotate_left
            ·
             simp only [Act.put, List.setIfInBounds_toArray, List.set_cons_zero, List.set_cons_succ, i64_w, i32_w]; rfl
            refine pure_ (i := 11) (N := some 149) (v := ?_) (a' := ?_) #[true, true, true, true, true, true, true, true, true, true, true, true, false, false, false, false, false, false, false, false, false] rfl rfl (any_of HT_.out (by kernel_rfl)) (fun _ _ _ h => h) (Or.inl ⟨by rfl, ?_⟩) ?_ ?_
            rotate_left
            ·
             intro w'; go_simp
             with_reducible rfl
            rotate_left
            ·
             simp only [Act.put, List.setIfInBounds_toArray, List.set_cons_zero, List.set_cons_succ, i64_w, i32_w]; rfl
            refine pure_ (i := 12) (N := some 150) (v := ?_) (a' := ?_) #[true, true, true, true, true, true, true, true, true, true, true, true, true, false, false, false, false, false, false, false, false] rfl rfl (any_of HT_.out (by kernel_rfl)) (fun _ _ _ h => h) (Or.inl ⟨by rfl, ?_⟩) ?_ ?_
            rotate_left
            ·
             intro w'; go_simp
             with_reducible rfl
            rotate_left
            ·
             simp only [Act.put, List.setIfInBounds_toArray, List.set_cons_zero, List.set_cons_succ, i64_w, i32_w]; rfl
            refine pure_ (i := 14) (N := some 152) (v := ?_) (a' := ?_) #[true, true, true, true, true, true, true, true, true, true, true, true, true, false, true, false, false, false, false, false, false] rfl rfl (any_of HT_.out (by kernel_rfl)) (fun _ _ _ h => h) (Or.inl ⟨by rfl, ?_⟩) ?_ ?_
            rotate_left
            ·
             intro w'; go_simp
             with_reducible rfl
            rotate_left
            ·
             simp only [Act.put, List.setIfInBounds_toArray, List.set_cons_zero, List.set_cons_succ, i64_w, i32_w]; rfl
            refine take_ (i := 13) (N := some 151) (v := ?_) (a' := ?_) #[true, true, true, true, true, true, true, true, true, true, true, true, true, true, true, false, false, false, false, false, false] rfl rfl (take_ofW HT_.out HW_.out (by kernel_rfl)) (fun _ _ _ h => h) (Or.inl ⟨by rfl, ?_⟩) hHeld ?_ ?_
            rotate_left
            ·
             rintro w' ⟨s0, s1, s2, s3⟩; go_simp
             with_reducible rfl
            rotate_left
            ·
             simp only [Act.put, List.setIfInBounds_toArray, List.set_cons_zero, List.set_cons_succ, i64_w, i32_w]; rfl
            refine take_ (i := 15) (N := some 153) (v := ?_) (a' := ?_) #[true, true, true, true, true, true, true, true, true, true, true, true, true, true, true, true, false, false, false, false, false] rfl rfl (take_ofW HT_.out HW_.out (by kernel_rfl)) (fun _ _ _ h => h) (Or.inl ⟨by rfl, ?_⟩) hHeld ?_ ?_
            rotate_left
            ·
             rintro w' ⟨s0, s1, s2, s3⟩; go_simp
             with_reducible rfl
            rotate_left
            ·
             simp only [Act.put, List.setIfInBounds_toArray, List.set_cons_zero, List.set_cons_succ, i64_w, i32_w]; rfl
            refine one_ (i := 16) (N := some 154) #[true, true, true, true, true, true, true, true, true, true, true, true, true, true, true, true, true, false, false, false, false] rfl rfl (one_of HT_.out (by kernel_rfl)) (by decide) (fun K hK => ?_)
            refine goes_ Try.func20 (by kernel_rfl) rfl #[.slice none 0 0, .int .i64 a2_0, .int .i64 a2_1] (by rfl) rfl rfl (by (try simp only [List.map_toArray, List.map_cons, List.map_nil]); first | done | rfl | (simp only [List.length_drop, List.length_take]; rfl)) ?_
            refine (closure_Of.calls k3 _ _ ([] : List (S28)) a2_0 a2_1 t437 _ ?side1 ?side2 A110.out).mono ?_
            (case side1 => exact Kd.C_nil _ _); (case side2 => exact Nat.le_refl _); rintro e w116 ⟨v438, rfl, ho0, hb⟩; refine ⟨_, rfl, ?_⟩
            have n0_ := Aside0.mk (Kd.R_elder' (by (with_reducible repeat (first | apply Kd.rA_ | apply Kd.rN_ | apply Kd.rD_)); exact HO_13.out) (Kd.R_base ho0) hb); have n1_ := Aside0.mk (Kd.R_elder' (by (with_reducible repeat (first | apply Kd.rA_ | apply Kd.rN_ | apply Kd.rD_)); exact HO436.out) (Kd.R_base ho0) hb); have n2_ := Aside0.mk (Kd.R_lower (Kd.R_new' (Kd.R_new' ho0 (Kd.R_lt (by (with_reducible repeat (first | apply Kd.rA_ | apply Kd.rN_ | apply Kd.rD_)); exact HO_13.out))) (Kd.R_lt (by (with_reducible repeat (first | apply Kd.rA_ | apply Kd.rN_ | apply Kd.rD_)); exact HO436.out))) (below_size (by repeat (first | (with_reducible first | exact HB.out | apply lA_ | apply lN_ | apply lD_ | refine lS_ ?_ GE407.out | refine lS_ ?_ GE408.out) | exact HB.out)))); have n3_ := Aside0.mk (blk_below (g := gb407) (o := .cells #[.slice A0_0 l0_0.length c0_0, .slice A0_1 l0_1.length c0_1, .slice A0_2 l0_2.length c0_2, .slice A0_3 l0_3.length c0_3] 41 (0, 0)) (by (with_reducible repeat (first | refine bN_ ?_ _ | refine bD_ ?_ | refine bA_ ?_ _)); exact BK407.out) hb); have n4_ := Aside0.mk (blk_below (g := gb408) (o := .cells #[.int .i64 a2_0, .int .i64 a2_1, .int .i64 a2_2, .int .i64 a2_3] 28 (0, 0)) (by (with_reducible repeat (first | refine bN_ ?_ _ | refine bD_ ?_ | refine bA_ ?_ _)); exact BK408.out) hb); have n5_ := Aside0.mk (below_step (by repeat (first | (with_reducible first | exact HB.out | apply lA_ | apply lN_ | apply lD_ | refine lS_ ?_ GE407.out | refine lS_ ?_ GE408.out) | exact HB.out)) hb); clear HO_13; clear HO436; clear BK407; clear BK408; clear HB; have HO_13 := n0_; have HO436 := n1_; have HO439 := n2_; have BK407 := n3_; have BK408 := n4_; have HB := n5_; clear n0_ n1_ n2_ n3_ n4_ n5_; (try clear hb); (try clear hb2); (try clear hk); (try clear hi); (try clear ho0); obtain ⟨Ao117, co117, eo117⟩ := Kd.R_slice HO439.out; (first | subst eo117 | (injection eo117 with f1_ f2_ f3_; have f4_ := f1_.symm; have f5_ := f3_.symm; clear f1_ f2_ f3_; subst f4_; subst f5_))
            refine hK.out _ _ ⟨(blk_cell BK408.out 0).trans rfl, (blk_cell BK408.out 1).trans rfl, (blk_cell BK408.out 2).trans rfl, (blk_cell BK408.out 3).trans rfl⟩ (fun hHeld => ?_)
            clear hK K; refine norm_ (a' := ?_) ?_ ?_
            rotate_left
            ·
             show Act.put _ (some 154) _ = _
             simp only [Act.put, List.setIfInBounds_toArray, List.set_cons_zero, List.set_cons_succ, i64_w, i32_w]; rfl
            refine pure_ (i := 17) (N := some 155) (v := ?_) (a' := ?_) #[true, true, true, true, true, true, true, true, true, true, true, true, true, true, true, true, true, true, false, false, false] rfl rfl (any_of HT_.out (by kernel_rfl)) (fun _ _ _ h => h) (Or.inl ⟨by rfl, ?_⟩) ?_ ?_
            rotate_left
            ·
             intro w'; go_simp
             with_reducible rfl
            rotate_left
            ·
             simp only [Act.put, List.setIfInBounds_toArray, List.set_cons_zero, List.set_cons_succ, i64_w, i32_w]; rfl
            refine pure_ (i := 18) (N := some 156) (v := ?_) (a' := ?_) #[true, true, true, true, true, true, true, true, true, true, true, true, true, true, true, true, true, true, true, false, false] rfl rfl (any_of HT_.out (by kernel_rfl)) (fun _ _ _ h => h) (Or.inl ⟨by rfl, ?_⟩) ?_ ?_
            rotate_left
            ·
             intro w'; go_simp
             with_reducible rfl
            rotate_left
            ·
             simp only [Act.put, List.setIfInBounds_toArray, List.set_cons_zero, List.set_cons_succ, i64_w, i32_w]; rfl
            refine pure_ (i := 19) (N := some 157) (v := ?_) (a' := ?_) #[true, true, true, true, true, true, true, true, true, true, true, true, true, true, true, true, true, true, true, true, false] rfl rfl (any_of HT_.out (by kernel_rfl)) (fun _ _ _ h => h) (Or.inl ⟨by rfl, ?_⟩) ?_ ?_
            rotate_left
            ·
             intro w'; go_simp
             with_reducible rfl
            rotate_left
            ·
             simp only [Act.put, List.setIfInBounds_toArray, List.set_cons_zero, List.set_cons_succ, i64_w, i32_w]; rfl
            refine pure_ (i := 20) (N := some 6) (v := ?_) (a' := ?_) #[true, true, true, true, true, true, true, true, true, true, true, true, true, true, true, true, true, true, true, true, true] rfl rfl (any_of HT_.out (by kernel_rfl)) (fun _ _ _ h => h) (Or.inl ⟨by rfl, ?_⟩) ?_ ?_
            rotate_left
            ·
             intro w'; go_simp
             with_reducible rfl
            rotate_left
            ·
             simp only [Act.put, List.setIfInBounds_toArray, List.set_cons_zero, List.set_cons_succ, i64_w, i32_w]; rfl
            refine done_ (done_of HT_.out (by kernel_rfl)) ?_
            try go_wp2
            go_ret
            exact ⟨by first | rfl | (simp [errW_none, errW_some] <;> rfl) | (simp [*, errW_none, errW_some] <;> rfl), by repeat (first | (with_reducible first | exact HB.out | apply lA_ | apply lN_ | apply lD_ | refine lS_ ?_ GE407.out | refine lS_ ?_ GE408.out) | exact HB.out)⟩
           ·
            rw [if_neg c109] at H
            have c109b0 : (t433 == (decide ((t434.length : Int) > 0))) = false := by simpa using c109
            try (have c109b3 : (t433 == decide (0 < t434.length)) = false := by simpa using c109)
            (try (have c109b1 : decide (t433 = (decide ((t434.length : Int) > 0))) = false := by simpa using c109))
            (try (have c109b2 : (t433 == (decide ((t434.length : Int) > 0))) = false := by simpa using c109))
            (try (have c109b3 : ¬ (t433 = (decide ((t434.length : Int) > 0))) := by simpa using c109))
            clear c109
            exact absurd H (by simp)
 ·
  replace c5 := Bool.eq_false_iff.mpr c5; subst c5; have H1 : (none) = some r := by rw [if_neg (show ¬ (false = true) by decide)] at H; exact H
  clear H; have H := H1; clear H1
  exact absurd H (by simp)

end Go.Proofs.Ytnnnjpkmdjkdjaa.A
