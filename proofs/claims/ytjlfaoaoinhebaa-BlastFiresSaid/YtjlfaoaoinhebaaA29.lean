-- PRINTED by print.py (a twelfth state) out of the translation. Not trusted: Lean checks it.
import Derived.Test.YtjlfaoaoinhebaaA0
import Derived.Test.YtjlfaoaoinhebaaA23
namespace Go.Proofs.Ytjlfaoaoinhebaa.A
open Go.RowKit Go.Proofs.YtjlfaoaoinhebaaW.PrintWords Go.Proofs.YtjlfaoaoinhebaaW.PrintLast Go.Proofs.YtjlfaoaoinhebaaW.PrintMore
attribute [local go_sem] max2_int min2_int max_two min_two max_three min_three max_four min_four   -- for this text's walks alone
set_option linter.unusedVariables false
set_option linter.unusedSimpArgs false

def skiarearef51_End.f (k : Nat) (l0 : List (S30)) (a1 : Int) (a2 : Int) : Option ((List (S30)) × Int) := (skiarearef51_common.f k l0 a1 a2).bind fun bt342 => (if bt342.2 = 0 then (if 0 ≤ bt342.1 then (if bt342.1 < (l0.length : Int) then (if ((rd_T30 l0 bt342.1).f3) = 3 then ((skiarearef51_turned.f k l0 bt342.1 5 a2).bind fun t345 => (some (t345, 0))) else (some (([] : List (S30)), 10))) else (none)) else (none)) else (some (([] : List (S30)), bt342.2)))
theorem skiarearef51_End.mono : ∀ a0 a1 a2 k, LeO (skiarearef51_End.f k a0 a1 a2) (skiarearef51_End.f (k + 1) a0 a1 a2) := by
 intro a0 a1 a2 k; unfold skiarearef51_End.f
 repeat' first
   | (with_reducible exact skiarearef51_common.mono _ _ _ _)
   | (with_reducible exact skiarearef51_turned.mono _ _ _ _ _)
   | (with_reducible exact LeO.refl _)
   | (with_reducible exact LeO.none _)
   | (with_reducible refine LeO.ite ?_ ?_)
   | (with_reducible refine LeO.bind ?_ (fun _ => ?_))
   | exact skiarearef51_common.mono _ _ _ _
   | exact skiarearef51_turned.mono _ _ _ _ _
   | exact LeO.none _
   | refine LeO.ite ?_ ?_
   | refine LeO.bind ?_ (fun _ => ?_)
set_option maxHeartbeats 8000000 in
set_option maxRecDepth 100000 in
theorem skiarearef51_End.calls (k : Nat) (A0 : Option Addr) (c0 : Nat) (l0 : List (S30)) (a1 : Int) (a2 : Int) (r1 : List (S30)) (r2 : Int) (w : World) (hr0 : Kd.C k30 w A0 l0.length l0) (hc0 : l0.length ≤ c0) (h : skiarearef51_End.f k l0 a1 a2 = some (r1, r2)) :
  Calls Try.prog 27 #[.slice A0 l0.length c0, .int .i64 a1, .int .i64 a2] w fun e w' => ∃ v0_ : Value, e = .returned (.tuple #[v0_, .int .i64 r2]) ∧ Kd.R k30 30 w' w.heap.size (fun _ => True) v0_ r1 ∧ Below w.heap.size w w' := by
 have HR0 := Aside0.mk hr0; have HC0 := Aside0.mk hc0; clear hr0 hc0; have HB := Aside0.mk (Below.refl w.heap.size w); have H : ((skiarearef51_common.f k l0 a1 a2).bind fun bt342 => (if bt342.2 = 0 then (if 0 ≤ bt342.1 then (if bt342.1 < (l0.length : Int) then (if ((rd_T30 l0 bt342.1).f3) = 3 then ((skiarearef51_turned.f k l0 bt342.1 5 a2).bind fun t345 => (some (t345, 0))) else (some (([] : List (S30)), 10))) else (none)) else (none)) else (some (([] : List (S30)), bt342.2)))) = some (r1, r2) := h; clear h; replace H := Option.bind_eq_some_iff.mp H; obtain ⟨⟨t342, t343⟩, A40, H⟩ := H; replace H : (if t343 = 0 then (if 0 ≤ t342 then (if t342 < (l0.length : Int) then (if ((rd_T30 l0 t342).f3) = 3 then ((skiarearef51_turned.f k l0 t342 5 a2).bind fun t345 => (some (t345, 0))) else (some (([] : List (S30)), 10))) else (none)) else (none)) else (some (([] : List (S30)), t343))) = some (r1, r2) := H; have A4 := Aside0.mk A40; clear A40; by_cases c5 : t343 = 0
 ·
  rw [if_pos c5] at H
  have c5b0 : (t343 == 0) = true := beq_iff_eq.mpr c5; have c5b1 : (t343 != 0) = false := bne_eq_false_iff_eq.mpr c5; clear c5; by_cases c6 : 0 ≤ t342
  ·
   rw [if_pos c6] at H
   have c6b0 : decide (0 ≤ t342) = true := decide_eq_true c6; clear c6; by_cases c7 : t342 < (l0.length : Int)
   ·
    rw [if_pos c7] at H
    have c7b0 : decide (t342 < (l0.length : Int)) = true := decide_eq_true c7; clear c7; by_cases c8 : ((rd_T30 l0 t342).f3) = 3
    ·
     rw [if_pos c8] at H
     have c8b0 : (((rd_T30 l0 t342).f3) == 3) = true := beq_iff_eq.mpr c8; have c8b1 : (((rd_T30 l0 t342).f3) != 3) = false := bne_eq_false_iff_eq.mpr c8; clear c8; replace H := Option.bind_eq_some_iff.mp H; obtain ⟨t345, A90, H⟩ := H; replace H : (some (t345, 0)) = some (r1, r2) := H; have A9 := Aside0.mk A90; clear A90; simp only [Option.some.injEq, Prod.mk.injEq] at H
     obtain ⟨rfl, rfl⟩ := H; go_enter Try.func27, Try.ntmps27
     go_wp2_with (first | ((with_reducible refine gate_callee (f := 47) rfl ?_); refine goesL_ (some 14) rfl rfl Try.func47 (by kernel_rfl) rfl #[.slice A0 l0.length c0, .int .i64 a1, .int .i64 a2] rfl (by (try simp only [List.map_toArray, List.map_cons, List.map_nil]); first | done | rfl | (simp only [List.length_drop, List.length_take]; rfl)) ?_; (with_reducible refine (skiarearef51_common.calls k _ _ l0 a1 a2 t342 t343 _ ?side1 ?side2 A4.out).mono ?_); (case side1 => repeat (first | exact HR0.out | (with_reducible refine Kd.cA_ ?_ _) | (with_reducible refine Kd.cN_ ?_ _) | (with_reducible refine Kd.cD_ ?_))); (case side2 => exact HC0.out); rintro e w' ⟨rfl, ⟨nd, rfl⟩⟩; refine ⟨_, rfl, ?_⟩; have p344 : 0 ≤ (t342 : Int) := of_decide_eq_true (by first | (with_reducible assumption) | assumption); have q344 : t342 < (l0.length : Int) := of_decide_eq_true (by first | (with_reducible assumption) | assumption); obtain ⟨ad344, e344, hx344_0, hx344_1, hx344_2, hx344_3, hx344_4, hx344_5, hx344_6⟩ := at_T30 HR0.out t342 p344 q344; cases e344; replace p344 := eq_true p344; replace q344 := eq_true q344) | ((with_reducible refine gate_callee (f := 49) rfl ?_); refine goesL_ (some 29) rfl rfl Try.func49 (by kernel_rfl) rfl #[.slice (some ad344) l0.length c0, .int .i64 t342, .int .i64 5, .int .i64 a2] rfl (by (try simp only [List.map_toArray, List.map_cons, List.map_nil]); first | done | rfl | (simp only [List.length_drop, List.length_take]; rfl)) ?_; (with_reducible refine (skiarearef51_turned.calls k _ _ l0 t342 5 a2 t345 _ ?side1 ?side2 A9.out).mono ?_); (case side1 => repeat (first | exact HR0.out | (with_reducible refine Kd.cA_ ?_ _) | (with_reducible refine Kd.cN_ ?_ _) | (with_reducible refine Kd.cD_ ?_))); (case side2 => exact HC0.out); rintro e w10 ⟨v346, rfl, ho0, hb⟩; refine ⟨_, rfl, ?_⟩; have n0_ := Aside0.mk (Kd.R_lower ho0 (below_size (by repeat (first | (with_reducible first | exact HB.out | apply lA_ | apply lN_ | apply lD_) | exact HB.out)))); have n1_ := Aside0.mk (below_step (by repeat (first | (with_reducible first | exact HB.out | apply lA_ | apply lN_ | apply lD_) | exact HB.out)) hb); clear HB; have HO347 := n0_; have HB := n1_; clear n0_ n1_; (try clear hb); (try clear hb2); (try clear hk); (try clear hi); (try clear ho0)))
     go_ret2
     exact ⟨_, by first | rfl | (simp [errW_none, errW_some] <;> rfl) | (simp [*, errW_none, errW_some] <;> rfl), by (with_reducible repeat (first | apply Kd.rA_ | apply Kd.rN_ | apply Kd.rD_)); exact HO347.out, by repeat (first | (with_reducible first | exact HB.out | apply lA_ | apply lN_ | apply lD_) | exact HB.out)⟩
    ·
     rw [if_neg c8] at H
     have c8b0 : (((rd_T30 l0 t342).f3) == 3) = false := beq_eq_false_iff_ne.mpr c8; have c8b1 : (((rd_T30 l0 t342).f3) != 3) = true := bne_iff_ne.mpr c8; simp only [Option.some.injEq, Prod.mk.injEq] at H
     obtain ⟨rfl, rfl⟩ := H; go_enter Try.func27, Try.ntmps27
     go_wp2_with (first | ((with_reducible refine gate_callee (f := 47) rfl ?_); refine goesL_ (some 14) rfl rfl Try.func47 (by kernel_rfl) rfl #[.slice A0 l0.length c0, .int .i64 a1, .int .i64 a2] rfl (by (try simp only [List.map_toArray, List.map_cons, List.map_nil]); first | done | rfl | (simp only [List.length_drop, List.length_take]; rfl)) ?_; (with_reducible refine (skiarearef51_common.calls k _ _ l0 a1 a2 t342 t343 _ ?side1 ?side2 A4.out).mono ?_); (case side1 => repeat (first | exact HR0.out | (with_reducible refine Kd.cA_ ?_ _) | (with_reducible refine Kd.cN_ ?_ _) | (with_reducible refine Kd.cD_ ?_))); (case side2 => exact HC0.out); rintro e w' ⟨rfl, ⟨nd, rfl⟩⟩; refine ⟨_, rfl, ?_⟩; have p344 : 0 ≤ (t342 : Int) := of_decide_eq_true (by first | (with_reducible assumption) | assumption); have q344 : t342 < (l0.length : Int) := of_decide_eq_true (by first | (with_reducible assumption) | assumption); obtain ⟨ad344, e344, hx344_0, hx344_1, hx344_2, hx344_3, hx344_4, hx344_5, hx344_6⟩ := at_T30 HR0.out t342 p344 q344; cases e344; replace p344 := eq_true p344; replace q344 := eq_true q344))
     go_ret2
     exact ⟨_, by first | rfl | (simp [errW_none, errW_some] <;> rfl) | (simp [*, errW_none, errW_some] <;> rfl), by first | exact Kd.R_nil _ _ _ _ _ | exact Kd.N_nil _ _ _ _ _ | exact Kd.V_nil _ _ _ _ _ | exact Kd.Q_nil _ _ _ _ _ | exact Kd.S_nil _ _ _ _ _, by repeat (first | (with_reducible first | exact HB.out | apply lA_ | apply lN_ | apply lD_) | exact HB.out)⟩
   ·
    rw [if_neg c7] at H
    exact absurd H (by simp)
  ·
   rw [if_neg c6] at H
   exact absurd H (by simp)
 ·
  rw [if_neg c5] at H
  have c5b0 : (t343 == 0) = false := beq_eq_false_iff_ne.mpr c5; have c5b1 : (t343 != 0) = true := bne_iff_ne.mpr c5; simp only [Option.some.injEq, Prod.mk.injEq] at H
  obtain ⟨rfl, rfl⟩ := H; go_enter Try.func27, Try.ntmps27
  go_wp2_with (first | ((with_reducible refine gate_callee (f := 47) rfl ?_); refine goesL_ (some 14) rfl rfl Try.func47 (by kernel_rfl) rfl #[.slice A0 l0.length c0, .int .i64 a1, .int .i64 a2] rfl (by (try simp only [List.map_toArray, List.map_cons, List.map_nil]); first | done | rfl | (simp only [List.length_drop, List.length_take]; rfl)) ?_; (with_reducible refine (skiarearef51_common.calls k _ _ l0 a1 a2 t342 t343 _ ?side1 ?side2 A4.out).mono ?_); (case side1 => repeat (first | exact HR0.out | (with_reducible refine Kd.cA_ ?_ _) | (with_reducible refine Kd.cN_ ?_ _) | (with_reducible refine Kd.cD_ ?_))); (case side2 => exact HC0.out); rintro e w' ⟨rfl, ⟨nd, rfl⟩⟩; refine ⟨_, rfl, ?_⟩))
  go_ret2
  exact ⟨_, by first | rfl | (simp [errW_none, errW_some] <;> rfl) | (simp [*, errW_none, errW_some] <;> rfl), by first | exact Kd.R_nil _ _ _ _ _ | exact Kd.N_nil _ _ _ _ _ | exact Kd.V_nil _ _ _ _ _ | exact Kd.Q_nil _ _ _ _ _ | exact Kd.S_nil _ _ _ _ _, by repeat (first | (with_reducible first | exact HB.out | apply lA_ | apply lN_ | apply lD_) | exact HB.out)⟩

def skiarearef51_Abort.j0 : Nat → List (S30) → Int → Int → Bool → Int → Int → Int → Int → Int → Int → Int → Option ((List (S30)) × Int)
 | 0, _, _, _, _, _, _, _, _, _, _, _ => none
 | k + 1, x0, x2, x8, x37, x352000, x352001, x352002, x352003, x352004, x352005, x352006 => if x37 = true then (some (([] : List (S30)), 10)) else (if x352003 = 4 then (if x2 < (wrap64 (x352004 + 1800)) then (some (([] : List (S30)), 13)) else ((skiarearef51_turned.f k x0 x8 6 x2).bind fun t352 => (some (t352, 0)))) else ((skiarearef51_turned.f k x0 x8 6 x2).bind fun t355 => (some (t355, 0))))
def skiarearef51_Abort.f (k : Nat) (l0 : List (S30)) (a1 : Int) (a2 : Int) : Option ((List (S30)) × Int) := (skiarearef51_common.f k l0 a1 a2).bind fun bt348 => (if bt348.2 = 0 then (if 0 ≤ bt348.1 then (if bt348.1 < (l0.length : Int) then (if ((rd_T30 l0 bt348.1).f3) = 3 then (skiarearef51_Abort.j0 k l0 a2 bt348.1 true ((rd_T30 l0 bt348.1).f0) ((rd_T30 l0 bt348.1).f1) ((rd_T30 l0 bt348.1).f2) ((rd_T30 l0 bt348.1).f3) ((rd_T30 l0 bt348.1).f4) ((rd_T30 l0 bt348.1).f5.f0) ((rd_T30 l0 bt348.1).f5.f1)) else (if ((rd_T30 l0 bt348.1).f3) = 5 then (skiarearef51_Abort.j0 k l0 a2 bt348.1 true ((rd_T30 l0 bt348.1).f0) ((rd_T30 l0 bt348.1).f1) ((rd_T30 l0 bt348.1).f2) ((rd_T30 l0 bt348.1).f3) ((rd_T30 l0 bt348.1).f4) ((rd_T30 l0 bt348.1).f5.f0) ((rd_T30 l0 bt348.1).f5.f1)) else (skiarearef51_Abort.j0 k l0 a2 bt348.1 (((rd_T30 l0 bt348.1).f3) == 6) ((rd_T30 l0 bt348.1).f0) ((rd_T30 l0 bt348.1).f1) ((rd_T30 l0 bt348.1).f2) ((rd_T30 l0 bt348.1).f3) ((rd_T30 l0 bt348.1).f4) ((rd_T30 l0 bt348.1).f5.f0) ((rd_T30 l0 bt348.1).f5.f1)))) else (none)) else (none)) else (some (([] : List (S30)), bt348.2)))
theorem skiarearef51_Abort.mono_l : ∀ k, (∀ y0 y1 y2 y3 y4 y5 y6 y7 y8 y9 y10, LeO (skiarearef51_Abort.j0 k y0 y1 y2 y3 y4 y5 y6 y7 y8 y9 y10) (skiarearef51_Abort.j0 (k + 1) y0 y1 y2 y3 y4 y5 y6 y7 y8 y9 y10))
 | 0 => fun _ _ _ _ _ _ _ _ _ _ _ r h => by simp [skiarearef51_Abort.j0] at h
 | k + 1 => by
  have ih0 := skiarearef51_Abort.mono_l k
  ·
   intro y0 y1 y2 y3 y4 y5 y6 y7 y8 y9 y10; unfold skiarearef51_Abort.j0
   repeat' first
   | (with_reducible exact ih0 _ _ _ _ _ _ _ _ _ _ _)
   | (with_reducible exact skiarearef51_common.mono _ _ _ _)
   | (with_reducible exact skiarearef51_turned.mono _ _ _ _ _)
   | (with_reducible exact LeO.refl _)
   | (with_reducible exact LeO.none _)
   | (with_reducible refine LeO.ite ?_ ?_)
   | (with_reducible refine LeO.bind ?_ (fun _ => ?_))
   | exact ih0 _ _ _ _ _ _ _ _ _ _ _
   | exact skiarearef51_common.mono _ _ _ _
   | exact skiarearef51_turned.mono _ _ _ _ _
   | exact LeO.none _
   | refine LeO.ite ?_ ?_
   | refine LeO.bind ?_ (fun _ => ?_)
theorem skiarearef51_Abort.mono : ∀ a0 a1 a2 k, LeO (skiarearef51_Abort.f k a0 a1 a2) (skiarearef51_Abort.f (k + 1) a0 a1 a2) := by
 intro a0 a1 a2 k; have ih0 := skiarearef51_Abort.mono_l k; unfold skiarearef51_Abort.f
 repeat' first
   | (with_reducible exact ih0 _ _ _ _ _ _ _ _ _ _ _)
   | (with_reducible exact skiarearef51_common.mono _ _ _ _)
   | (with_reducible exact skiarearef51_turned.mono _ _ _ _ _)
   | (with_reducible exact LeO.refl _)
   | (with_reducible exact LeO.none _)
   | (with_reducible refine LeO.ite ?_ ?_)
   | (with_reducible refine LeO.bind ?_ (fun _ => ?_))
   | exact ih0 _ _ _ _ _ _ _ _ _ _ _
   | exact skiarearef51_common.mono _ _ _ _
   | exact skiarearef51_turned.mono _ _ _ _ _
   | exact LeO.none _
   | refine LeO.ite ?_ ?_
   | refine LeO.bind ?_ (fun _ => ?_)
set_option maxHeartbeats 8000000 in
set_option maxRecDepth 100000 in
theorem skiarearef51_Abort.calls (k : Nat) (A0 : Option Addr) (c0 : Nat) (l0 : List (S30)) (a1 : Int) (a2 : Int) (r1 : List (S30)) (r2 : Int) (w : World) (hr0 : Kd.C k30 w A0 l0.length l0) (hc0 : l0.length ≤ c0) (h : skiarearef51_Abort.f k l0 a1 a2 = some (r1, r2)) :
  Calls Try.prog 29 #[.slice A0 l0.length c0, .int .i64 a1, .int .i64 a2] w fun e w' => ∃ v0_ : Value, e = .returned (.tuple #[v0_, .int .i64 r2]) ∧ Kd.R k30 30 w' w.heap.size (fun _ => True) v0_ r1 ∧ Below w.heap.size w w' := by
 have hu30 := Try.underlying30; have HR0 := Aside0.mk hr0; have HC0 := Aside0.mk hc0; clear hr0 hc0; have HB := Aside0.mk (Below.refl w.heap.size w); have H : ((skiarearef51_common.f k l0 a1 a2).bind fun bt348 => (if bt348.2 = 0 then (if 0 ≤ bt348.1 then (if bt348.1 < (l0.length : Int) then (if ((rd_T30 l0 bt348.1).f3) = 3 then (skiarearef51_Abort.j0 k l0 a2 bt348.1 true ((rd_T30 l0 bt348.1).f0) ((rd_T30 l0 bt348.1).f1) ((rd_T30 l0 bt348.1).f2) ((rd_T30 l0 bt348.1).f3) ((rd_T30 l0 bt348.1).f4) ((rd_T30 l0 bt348.1).f5.f0) ((rd_T30 l0 bt348.1).f5.f1)) else (if ((rd_T30 l0 bt348.1).f3) = 5 then (skiarearef51_Abort.j0 k l0 a2 bt348.1 true ((rd_T30 l0 bt348.1).f0) ((rd_T30 l0 bt348.1).f1) ((rd_T30 l0 bt348.1).f2) ((rd_T30 l0 bt348.1).f3) ((rd_T30 l0 bt348.1).f4) ((rd_T30 l0 bt348.1).f5.f0) ((rd_T30 l0 bt348.1).f5.f1)) else (skiarearef51_Abort.j0 k l0 a2 bt348.1 (((rd_T30 l0 bt348.1).f3) == 6) ((rd_T30 l0 bt348.1).f0) ((rd_T30 l0 bt348.1).f1) ((rd_T30 l0 bt348.1).f2) ((rd_T30 l0 bt348.1).f3) ((rd_T30 l0 bt348.1).f4) ((rd_T30 l0 bt348.1).f5.f0) ((rd_T30 l0 bt348.1).f5.f1)))) else (none)) else (none)) else (some (([] : List (S30)), bt348.2)))) = some (r1, r2) := h; clear h; replace H := Option.bind_eq_some_iff.mp H; obtain ⟨⟨t348, t349⟩, A40, H⟩ := H; replace H : (if t349 = 0 then (if 0 ≤ t348 then (if t348 < (l0.length : Int) then (if ((rd_T30 l0 t348).f3) = 3 then (skiarearef51_Abort.j0 k l0 a2 t348 true ((rd_T30 l0 t348).f0) ((rd_T30 l0 t348).f1) ((rd_T30 l0 t348).f2) ((rd_T30 l0 t348).f3) ((rd_T30 l0 t348).f4) ((rd_T30 l0 t348).f5.f0) ((rd_T30 l0 t348).f5.f1)) else (if ((rd_T30 l0 t348).f3) = 5 then (skiarearef51_Abort.j0 k l0 a2 t348 true ((rd_T30 l0 t348).f0) ((rd_T30 l0 t348).f1) ((rd_T30 l0 t348).f2) ((rd_T30 l0 t348).f3) ((rd_T30 l0 t348).f4) ((rd_T30 l0 t348).f5.f0) ((rd_T30 l0 t348).f5.f1)) else (skiarearef51_Abort.j0 k l0 a2 t348 (((rd_T30 l0 t348).f3) == 6) ((rd_T30 l0 t348).f0) ((rd_T30 l0 t348).f1) ((rd_T30 l0 t348).f2) ((rd_T30 l0 t348).f3) ((rd_T30 l0 t348).f4) ((rd_T30 l0 t348).f5.f0) ((rd_T30 l0 t348).f5.f1)))) else (none)) else (none)) else (some (([] : List (S30)), t349))) = some (r1, r2) := H; have A4 := Aside0.mk A40; clear A40; by_cases c5 : t349 = 0
 ·
  rw [if_pos c5] at H
  have c5b0 : (t349 == 0) = true := beq_iff_eq.mpr c5; have c5b1 : (t349 != 0) = false := bne_eq_false_iff_eq.mpr c5; clear c5; by_cases c6 : 0 ≤ t348
  ·
   rw [if_pos c6] at H
   have c6b0 : decide (0 ≤ t348) = true := decide_eq_true c6; clear c6; by_cases c7 : t348 < (l0.length : Int)
   ·
    rw [if_pos c7] at H
    have c7b0 : decide (t348 < (l0.length : Int)) = true := decide_eq_true c7; clear c7; have HC8 := Aside0.mk H; clear H; go_enter Try.func29, Try.ntmps29
    go_upto_region 5 with (first | ((with_reducible refine gate_callee (f := 47) rfl ?_); refine goesL_ (some 15) rfl rfl Try.func47 (by kernel_rfl) rfl #[.slice A0 l0.length c0, .int .i64 a1, .int .i64 a2] rfl (by (try simp only [List.map_toArray, List.map_cons, List.map_nil]); first | done | rfl | (simp only [List.length_drop, List.length_take]; rfl)) ?_; (with_reducible refine (skiarearef51_common.calls k _ _ l0 a1 a2 t348 t349 _ ?side1 ?side2 A4.out).mono ?_); (case side1 => repeat (first | exact HR0.out | (with_reducible refine Kd.cA_ ?_ _) | (with_reducible refine Kd.cN_ ?_ _) | (with_reducible refine Kd.cD_ ?_))); (case side2 => exact HC0.out); rintro e w' ⟨rfl, ⟨nd, rfl⟩⟩; refine ⟨_, rfl, ?_⟩; have p350 : 0 ≤ (t348 : Int) := of_decide_eq_true (by first | (with_reducible assumption) | assumption); have q350 : t348 < (l0.length : Int) := of_decide_eq_true (by first | (with_reducible assumption) | assumption); obtain ⟨ad350, e350, hx350_0, hx350_1, hx350_2, hx350_3, hx350_4, hx350_5, hx350_6⟩ := at_T30 HR0.out t348 p350 q350; cases e350; replace p350 := eq_true p350; replace q350 := eq_true q350) | ((with_reducible refine gate_dst (N := 10) rfl ?_); refine box_event ?hg (N := 10) ?hd (cs := #[.int .i64 0, .int .i64 0, .int .i64 0, .int .i64 0, .int .i64 0, .int .i64 0, .int .i64 0]) (t := 30) ?hr ?_; (case hd => rfl); (case hg => rfl); (case hr => first | (go_simp; done) | (go_simp; rfl)); intro gb351 hg w9 hbox hb; have n0_ := Aside0.mk (below_step (by repeat (first | (with_reducible first | exact HB.out | apply lA_ | apply lN_ | apply lD_) | exact HB.out)) hb); have n1_ := Aside0.mk (hbox); have n2_ := Aside0.mk ((by rw [hg]; exact (below_size (by repeat (first | (with_reducible first | exact HB.out | apply lA_ | apply lN_ | apply lD_) | exact HB.out))) : w.heap.size ≤ gb351)); have n3_ := Aside0.mk ((by rw [hg]; exact (below_size (by repeat (first | (with_reducible first | exact HB.out | apply lA_ | apply lN_ | apply lD_) | exact HB.out))) : w.heap.size ≤ gb351)); clear HB; have HB := n0_; have BK351 := n1_; have GW351 := n2_; have GE351 := n3_; clear n0_ n1_ n2_ n3_; clear hb hbox hg; have hcz10_0 : w9.cell? ⟨gb351, 0, none⟩ = some (.int .i64 0) := (blk_cell BK351.out 0).trans rfl; have hcz10_1 : w9.cell? ⟨gb351, 1, none⟩ = some (.int .i64 0) := (blk_cell BK351.out 1).trans rfl; have hcz10_2 : w9.cell? ⟨gb351, 2, none⟩ = some (.int .i64 0) := (blk_cell BK351.out 2).trans rfl; have hcz10_3 : w9.cell? ⟨gb351, 3, none⟩ = some (.int .i64 0) := (blk_cell BK351.out 3).trans rfl; have hcz10_4 : w9.cell? ⟨gb351, 4, none⟩ = some (.int .i64 0) := (blk_cell BK351.out 4).trans rfl; have hcz10_5 : w9.cell? ⟨gb351, 5, none⟩ = some (.int .i64 0) := (blk_cell BK351.out 5).trans rfl; have hcz10_6 : w9.cell? ⟨gb351, 6, none⟩ = some (.int .i64 0) := (blk_cell BK351.out 6).trans rfl; have hfz10_0 := blk_frozen BK351.out 0; have hfz10_1 := blk_frozen BK351.out 1; have hfz10_2 := blk_frozen BK351.out 2; have hfz10_3 := blk_frozen BK351.out 3; have hfz10_4 := blk_frozen BK351.out 4; have hfz10_5 := blk_frozen BK351.out 5; have hfz10_6 := blk_frozen BK351.out 6))
    (try simp only [Act.put, List.setIfInBounds_toArray, List.set_cons_zero, List.set_cons_succ])
    go_cut [37] (fun v37 wc => ∃ (kq : Nat) (x37_7 : Bool), v37 = .bool x37_7 ∧ Aside0 (skiarearef51_Abort.j0 kq l0 a2 t348 x37_7 ((rd_T30 l0 t348).f0) ((rd_T30 l0 t348).f1) ((rd_T30 l0 t348).f2) ((rd_T30 l0 t348).f3) ((rd_T30 l0 t348).f4) ((rd_T30 l0 t348).f5.f0) ((rd_T30 l0 t348).f5.f1) = some (r1, r2)) ∧ Aside0 (kq ≤ k) ∧ Aside0 (wc.heap[gb351]? = some (.cells #[.int .i64 ((rd_T30 l0 t348).f0), .int .i64 ((rd_T30 l0 t348).f1), .int .i64 ((rd_T30 l0 t348).f2), .int .i64 ((rd_T30 l0 t348).f3), .int .i64 ((rd_T30 l0 t348).f4), .int .i64 ((rd_T30 l0 t348).f5.f0), .int .i64 ((rd_T30 l0 t348).f5.f1)] 30 (0, 0))) ∧ Aside0 (Below w.heap.size w wc))
    case first =>
     have H := HC8.out; clear HC8; by_cases c11 : ((rd_T30 l0 t348).f3) = 3
     ·
      rw [if_pos c11] at H
      have c11b0 : (((rd_T30 l0 t348).f3) == 3) = true := beq_iff_eq.mpr c11; have c11b1 : (((rd_T30 l0 t348).f3) != 3) = false := bne_eq_false_iff_eq.mpr c11; clear c11; (first | rw [c11b0] | (simp only [i64_w, i32_w]; rw [c11b0]) | skip)
      have H' := Aside0.mk H; clear H; have hcz12_0 : w9.cell? ⟨gb351, 0, none⟩ = some (.int .i64 0) := (blk_cell BK351.out 0).trans rfl; have hcz12_1 : w9.cell? ⟨gb351, 1, none⟩ = some (.int .i64 0) := (blk_cell BK351.out 1).trans rfl; have hcz12_2 : w9.cell? ⟨gb351, 2, none⟩ = some (.int .i64 0) := (blk_cell BK351.out 2).trans rfl; have hcz12_3 : w9.cell? ⟨gb351, 3, none⟩ = some (.int .i64 0) := (blk_cell BK351.out 3).trans rfl; have hcz12_4 : w9.cell? ⟨gb351, 4, none⟩ = some (.int .i64 0) := (blk_cell BK351.out 4).trans rfl; have hcz12_5 : w9.cell? ⟨gb351, 5, none⟩ = some (.int .i64 0) := (blk_cell BK351.out 5).trans rfl; have hcz12_6 : w9.cell? ⟨gb351, 6, none⟩ = some (.int .i64 0) := (blk_cell BK351.out 6).trans rfl; have hfz12_0 := blk_frozen BK351.out 0; have hfz12_1 := blk_frozen BK351.out 1; have hfz12_2 := blk_frozen BK351.out 2; have hfz12_3 := blk_frozen BK351.out 3; have hfz12_4 := blk_frozen BK351.out 4; have hfz12_5 := blk_frozen BK351.out 5; have hfz12_6 := blk_frozen BK351.out 6; go_wp2
      go_meet
      case rel => exact ⟨_, (true), (by first | rfl | (simp; done) | (simp [*]; done)), H', ⟨by first | omega | exact Nat.le_refl _⟩, ⟨by (with_reducible repeat (first | refine bN_ ?_ _ | refine bD_ ?_ | refine bA_ ?_ _)); refine blk_put (cs := #[.int .i64 ((rd_T30 l0 t348).f0), .int .i64 ((rd_T30 l0 t348).f1), .int .i64 ((rd_T30 l0 t348).f2), .int .i64 ((rd_T30 l0 t348).f3), .int .i64 ((rd_T30 l0 t348).f4), .int .i64 ((rd_T30 l0 t348).f5.f0), .int .i64 0]) ?_ 6 _ rfl; (with_reducible repeat (first | refine bN_ ?_ _ | refine bD_ ?_ | refine bA_ ?_ _)); refine blk_put (cs := #[.int .i64 ((rd_T30 l0 t348).f0), .int .i64 ((rd_T30 l0 t348).f1), .int .i64 ((rd_T30 l0 t348).f2), .int .i64 ((rd_T30 l0 t348).f3), .int .i64 ((rd_T30 l0 t348).f4), .int .i64 0, .int .i64 0]) ?_ 5 _ rfl; (with_reducible repeat (first | refine bN_ ?_ _ | refine bD_ ?_ | refine bA_ ?_ _)); refine blk_put (cs := #[.int .i64 ((rd_T30 l0 t348).f0), .int .i64 ((rd_T30 l0 t348).f1), .int .i64 ((rd_T30 l0 t348).f2), .int .i64 ((rd_T30 l0 t348).f3), .int .i64 0, .int .i64 0, .int .i64 0]) ?_ 4 _ rfl; (with_reducible repeat (first | refine bN_ ?_ _ | refine bD_ ?_ | refine bA_ ?_ _)); refine blk_put (cs := #[.int .i64 ((rd_T30 l0 t348).f0), .int .i64 ((rd_T30 l0 t348).f1), .int .i64 ((rd_T30 l0 t348).f2), .int .i64 0, .int .i64 0, .int .i64 0, .int .i64 0]) ?_ 3 _ rfl; (with_reducible repeat (first | refine bN_ ?_ _ | refine bD_ ?_ | refine bA_ ?_ _)); refine blk_put (cs := #[.int .i64 ((rd_T30 l0 t348).f0), .int .i64 ((rd_T30 l0 t348).f1), .int .i64 0, .int .i64 0, .int .i64 0, .int .i64 0, .int .i64 0]) ?_ 2 _ rfl; (with_reducible repeat (first | refine bN_ ?_ _ | refine bD_ ?_ | refine bA_ ?_ _)); refine blk_put (cs := #[.int .i64 ((rd_T30 l0 t348).f0), .int .i64 0, .int .i64 0, .int .i64 0, .int .i64 0, .int .i64 0, .int .i64 0]) ?_ 1 _ rfl; (with_reducible repeat (first | refine bN_ ?_ _ | refine bD_ ?_ | refine bA_ ?_ _)); refine blk_put (cs := #[.int .i64 0, .int .i64 0, .int .i64 0, .int .i64 0, .int .i64 0, .int .i64 0, .int .i64 0]) ?_ 0 _ rfl; (with_reducible repeat (first | refine bN_ ?_ _ | refine bD_ ?_ | refine bA_ ?_ _)); exact BK351.out⟩, ⟨by repeat (first | (with_reducible first | exact HB.out | apply lA_ | apply lN_ | apply lD_ | refine lS_ ?_ GE351.out) | exact HB.out)⟩⟩
     ·
      rw [if_neg c11] at H
      have c11b0 : (((rd_T30 l0 t348).f3) == 3) = false := beq_eq_false_iff_ne.mpr c11; have c11b1 : (((rd_T30 l0 t348).f3) != 3) = true := bne_iff_ne.mpr c11; (first | rw [c11b0] | (simp only [i64_w, i32_w]; rw [c11b0]) | skip)
      by_cases c13 : ((rd_T30 l0 t348).f3) = 5
      ·
       rw [if_pos c13] at H
       have c13b0 : (((rd_T30 l0 t348).f3) == 5) = true := beq_iff_eq.mpr c13; have c13b1 : (((rd_T30 l0 t348).f3) != 5) = false := bne_eq_false_iff_eq.mpr c13; clear c13; have H' := Aside0.mk H; clear H; have hcz14_0 : w9.cell? ⟨gb351, 0, none⟩ = some (.int .i64 0) := (blk_cell BK351.out 0).trans rfl; have hcz14_1 : w9.cell? ⟨gb351, 1, none⟩ = some (.int .i64 0) := (blk_cell BK351.out 1).trans rfl; have hcz14_2 : w9.cell? ⟨gb351, 2, none⟩ = some (.int .i64 0) := (blk_cell BK351.out 2).trans rfl; have hcz14_3 : w9.cell? ⟨gb351, 3, none⟩ = some (.int .i64 0) := (blk_cell BK351.out 3).trans rfl; have hcz14_4 : w9.cell? ⟨gb351, 4, none⟩ = some (.int .i64 0) := (blk_cell BK351.out 4).trans rfl; have hcz14_5 : w9.cell? ⟨gb351, 5, none⟩ = some (.int .i64 0) := (blk_cell BK351.out 5).trans rfl; have hcz14_6 : w9.cell? ⟨gb351, 6, none⟩ = some (.int .i64 0) := (blk_cell BK351.out 6).trans rfl; have hfz14_0 := blk_frozen BK351.out 0; have hfz14_1 := blk_frozen BK351.out 1; have hfz14_2 := blk_frozen BK351.out 2; have hfz14_3 := blk_frozen BK351.out 3; have hfz14_4 := blk_frozen BK351.out 4; have hfz14_5 := blk_frozen BK351.out 5; have hfz14_6 := blk_frozen BK351.out 6; go_wp2
       go_meet
       case rel => exact ⟨_, (true), (by first | rfl | (simp; done) | (simp [*]; done)), H', ⟨by first | omega | exact Nat.le_refl _⟩, ⟨by (with_reducible repeat (first | refine bN_ ?_ _ | refine bD_ ?_ | refine bA_ ?_ _)); refine blk_put (cs := #[.int .i64 ((rd_T30 l0 t348).f0), .int .i64 ((rd_T30 l0 t348).f1), .int .i64 ((rd_T30 l0 t348).f2), .int .i64 ((rd_T30 l0 t348).f3), .int .i64 ((rd_T30 l0 t348).f4), .int .i64 ((rd_T30 l0 t348).f5.f0), .int .i64 0]) ?_ 6 _ rfl; (with_reducible repeat (first | refine bN_ ?_ _ | refine bD_ ?_ | refine bA_ ?_ _)); refine blk_put (cs := #[.int .i64 ((rd_T30 l0 t348).f0), .int .i64 ((rd_T30 l0 t348).f1), .int .i64 ((rd_T30 l0 t348).f2), .int .i64 ((rd_T30 l0 t348).f3), .int .i64 ((rd_T30 l0 t348).f4), .int .i64 0, .int .i64 0]) ?_ 5 _ rfl; (with_reducible repeat (first | refine bN_ ?_ _ | refine bD_ ?_ | refine bA_ ?_ _)); refine blk_put (cs := #[.int .i64 ((rd_T30 l0 t348).f0), .int .i64 ((rd_T30 l0 t348).f1), .int .i64 ((rd_T30 l0 t348).f2), .int .i64 ((rd_T30 l0 t348).f3), .int .i64 0, .int .i64 0, .int .i64 0]) ?_ 4 _ rfl; (with_reducible repeat (first | refine bN_ ?_ _ | refine bD_ ?_ | refine bA_ ?_ _)); refine blk_put (cs := #[.int .i64 ((rd_T30 l0 t348).f0), .int .i64 ((rd_T30 l0 t348).f1), .int .i64 ((rd_T30 l0 t348).f2), .int .i64 0, .int .i64 0, .int .i64 0, .int .i64 0]) ?_ 3 _ rfl; (with_reducible repeat (first | refine bN_ ?_ _ | refine bD_ ?_ | refine bA_ ?_ _)); refine blk_put (cs := #[.int .i64 ((rd_T30 l0 t348).f0), .int .i64 ((rd_T30 l0 t348).f1), .int .i64 0, .int .i64 0, .int .i64 0, .int .i64 0, .int .i64 0]) ?_ 2 _ rfl; (with_reducible repeat (first | refine bN_ ?_ _ | refine bD_ ?_ | refine bA_ ?_ _)); refine blk_put (cs := #[.int .i64 ((rd_T30 l0 t348).f0), .int .i64 0, .int .i64 0, .int .i64 0, .int .i64 0, .int .i64 0, .int .i64 0]) ?_ 1 _ rfl; (with_reducible repeat (first | refine bN_ ?_ _ | refine bD_ ?_ | refine bA_ ?_ _)); refine blk_put (cs := #[.int .i64 0, .int .i64 0, .int .i64 0, .int .i64 0, .int .i64 0, .int .i64 0, .int .i64 0]) ?_ 0 _ rfl; (with_reducible repeat (first | refine bN_ ?_ _ | refine bD_ ?_ | refine bA_ ?_ _)); exact BK351.out⟩, ⟨by repeat (first | (with_reducible first | exact HB.out | apply lA_ | apply lN_ | apply lD_ | refine lS_ ?_ GE351.out) | exact HB.out)⟩⟩
      ·
       rw [if_neg c13] at H
       have c13b0 : (((rd_T30 l0 t348).f3) == 5) = false := beq_eq_false_iff_ne.mpr c13; have c13b1 : (((rd_T30 l0 t348).f3) != 5) = true := bne_iff_ne.mpr c13; have H' := Aside0.mk H; clear H; have hcz15_0 : w9.cell? ⟨gb351, 0, none⟩ = some (.int .i64 0) := (blk_cell BK351.out 0).trans rfl; have hcz15_1 : w9.cell? ⟨gb351, 1, none⟩ = some (.int .i64 0) := (blk_cell BK351.out 1).trans rfl; have hcz15_2 : w9.cell? ⟨gb351, 2, none⟩ = some (.int .i64 0) := (blk_cell BK351.out 2).trans rfl; have hcz15_3 : w9.cell? ⟨gb351, 3, none⟩ = some (.int .i64 0) := (blk_cell BK351.out 3).trans rfl; have hcz15_4 : w9.cell? ⟨gb351, 4, none⟩ = some (.int .i64 0) := (blk_cell BK351.out 4).trans rfl; have hcz15_5 : w9.cell? ⟨gb351, 5, none⟩ = some (.int .i64 0) := (blk_cell BK351.out 5).trans rfl; have hcz15_6 : w9.cell? ⟨gb351, 6, none⟩ = some (.int .i64 0) := (blk_cell BK351.out 6).trans rfl; have hfz15_0 := blk_frozen BK351.out 0; have hfz15_1 := blk_frozen BK351.out 1; have hfz15_2 := blk_frozen BK351.out 2; have hfz15_3 := blk_frozen BK351.out 3; have hfz15_4 := blk_frozen BK351.out 4; have hfz15_5 := blk_frozen BK351.out 5; have hfz15_6 := blk_frozen BK351.out 6; go_wp2
       go_meet
       case rel => exact ⟨_, ((((rd_T30 l0 t348).f3) == 6)), (by first | rfl | (simp; done) | (simp [*]; done)), H', ⟨by first | omega | exact Nat.le_refl _⟩, ⟨by (with_reducible repeat (first | refine bN_ ?_ _ | refine bD_ ?_ | refine bA_ ?_ _)); refine blk_put (cs := #[.int .i64 ((rd_T30 l0 t348).f0), .int .i64 ((rd_T30 l0 t348).f1), .int .i64 ((rd_T30 l0 t348).f2), .int .i64 ((rd_T30 l0 t348).f3), .int .i64 ((rd_T30 l0 t348).f4), .int .i64 ((rd_T30 l0 t348).f5.f0), .int .i64 0]) ?_ 6 _ rfl; (with_reducible repeat (first | refine bN_ ?_ _ | refine bD_ ?_ | refine bA_ ?_ _)); refine blk_put (cs := #[.int .i64 ((rd_T30 l0 t348).f0), .int .i64 ((rd_T30 l0 t348).f1), .int .i64 ((rd_T30 l0 t348).f2), .int .i64 ((rd_T30 l0 t348).f3), .int .i64 ((rd_T30 l0 t348).f4), .int .i64 0, .int .i64 0]) ?_ 5 _ rfl; (with_reducible repeat (first | refine bN_ ?_ _ | refine bD_ ?_ | refine bA_ ?_ _)); refine blk_put (cs := #[.int .i64 ((rd_T30 l0 t348).f0), .int .i64 ((rd_T30 l0 t348).f1), .int .i64 ((rd_T30 l0 t348).f2), .int .i64 ((rd_T30 l0 t348).f3), .int .i64 0, .int .i64 0, .int .i64 0]) ?_ 4 _ rfl; (with_reducible repeat (first | refine bN_ ?_ _ | refine bD_ ?_ | refine bA_ ?_ _)); refine blk_put (cs := #[.int .i64 ((rd_T30 l0 t348).f0), .int .i64 ((rd_T30 l0 t348).f1), .int .i64 ((rd_T30 l0 t348).f2), .int .i64 0, .int .i64 0, .int .i64 0, .int .i64 0]) ?_ 3 _ rfl; (with_reducible repeat (first | refine bN_ ?_ _ | refine bD_ ?_ | refine bA_ ?_ _)); refine blk_put (cs := #[.int .i64 ((rd_T30 l0 t348).f0), .int .i64 ((rd_T30 l0 t348).f1), .int .i64 0, .int .i64 0, .int .i64 0, .int .i64 0, .int .i64 0]) ?_ 2 _ rfl; (with_reducible repeat (first | refine bN_ ?_ _ | refine bD_ ?_ | refine bA_ ?_ _)); refine blk_put (cs := #[.int .i64 ((rd_T30 l0 t348).f0), .int .i64 0, .int .i64 0, .int .i64 0, .int .i64 0, .int .i64 0, .int .i64 0]) ?_ 1 _ rfl; (with_reducible repeat (first | refine bN_ ?_ _ | refine bD_ ?_ | refine bA_ ?_ _)); refine blk_put (cs := #[.int .i64 0, .int .i64 0, .int .i64 0, .int .i64 0, .int .i64 0, .int .i64 0, .int .i64 0]) ?_ 0 _ rfl; (with_reducible repeat (first | refine bN_ ?_ _ | refine bD_ ?_ | refine bA_ ?_ _)); exact BK351.out⟩, ⟨by repeat (first | (with_reducible first | exact HB.out | apply lA_ | apply lN_ | apply lD_ | refine lS_ ?_ GE351.out) | exact HB.out)⟩⟩
    case rest =>
     clear HC8; try clear c1
     try clear c2
     try clear p2
     try clear p3
     try clear q3
     try clear hx3
     try clear c4
     try clear c5
     try clear c5b0
     try clear c5b1
     try clear c6
     try clear c6b0
     try clear c7
     try clear c7b0
     try clear c11
     try clear c11b0
     try clear c11b1
     try clear c13
     try clear c13b0
     try clear c13b1
     try clear hcz10_0
     try clear hcz10_1
     try clear hcz10_2
     try clear hcz10_3
     try clear hcz10_4
     try clear hcz10_5
     try clear hcz10_6
     try clear hcz12_0
     try clear hcz12_1
     try clear hcz12_2
     try clear hcz12_3
     try clear hcz12_4
     try clear hcz12_5
     try clear hcz12_6
     try clear hcz14_0
     try clear hcz14_1
     try clear hcz14_2
     try clear hcz14_3
     try clear hcz14_4
     try clear hcz14_5
     try clear hcz14_6
     try clear hcz15_0
     try clear hcz15_1
     try clear hcz15_2
     try clear hcz15_3
     try clear hcz15_4
     try clear hcz15_5
     try clear hcz15_6
     try clear hfz10_0
     try clear hfz10_1
     try clear hfz10_2
     try clear hfz10_3
     try clear hfz10_4
     try clear hfz10_5
     try clear hfz10_6
     try clear hfz12_0
     try clear hfz12_1
     try clear hfz12_2
     try clear hfz12_3
     try clear hfz12_4
     try clear hfz12_5
     try clear hfz12_6
     try clear hfz14_0
     try clear hfz14_1
     try clear hfz14_2
     try clear hfz14_3
     try clear hfz14_4
     try clear hfz14_5
     try clear hfz14_6
     try clear hfz15_0
     try clear hfz15_1
     try clear hfz15_2
     try clear hfz15_3
     try clear hfz15_4
     try clear hfz15_5
     try clear hfz15_6
     try clear hx350_0
     try clear hx350_1
     try clear hx350_2
     try clear hx350_3
     try clear hx350_4
     try clear hx350_5
     try clear hx350_6
     try clear p350
     try clear q350
     obtain ⟨kq, x37_7, rfl, HA, HJ7, BK351, HB⟩ := hcut
     cases kq with
     | zero => exact absurd HA.out (by simp [skiarearef51_Abort.j0])
     | succ kj7 =>
      have H := HA.out; clear HA; simp only [skiarearef51_Abort.j0] at H
      by_cases c16 : x37_7 = true
      ·
       subst c16; have H1 : (some (([] : List (S30)), 10)) = some (r1, r2) := by rw [if_pos rfl] at H; exact H
       clear H; have H := H1; clear H1; simp only [Option.some.injEq, Prod.mk.injEq] at H
       obtain ⟨rfl, rfl⟩ := H; go_wp2
       go_ret2
       exact ⟨_, by first | rfl | (simp [errW_none, errW_some] <;> rfl) | (simp [*, errW_none, errW_some] <;> rfl), by first | exact Kd.R_nil _ _ _ _ _ | exact Kd.N_nil _ _ _ _ _ | exact Kd.V_nil _ _ _ _ _ | exact Kd.Q_nil _ _ _ _ _ | exact Kd.S_nil _ _ _ _ _, by repeat (first | (with_reducible first | exact HB.out | apply lA_ | apply lN_ | apply lD_ | refine lS_ ?_ GE351.out) | exact HB.out)⟩
      ·
       replace c16 := Bool.eq_false_iff.mpr c16; subst c16; have H1 : (if ((rd_T30 l0 t348).f3) = 4 then (if a2 < (wrap64 (((rd_T30 l0 t348).f4) + 1800)) then (some (([] : List (S30)), 13)) else ((skiarearef51_turned.f kj7 l0 t348 6 a2).bind fun t352 => (some (t352, 0)))) else ((skiarearef51_turned.f kj7 l0 t348 6 a2).bind fun t355 => (some (t355, 0)))) = some (r1, r2) := by rw [if_neg (show ¬ (false = true) by decide)] at H; exact H
       clear H; have H := H1; clear H1; by_cases c17 : ((rd_T30 l0 t348).f3) = 4
       ·
        rw [if_pos c17] at H
        have c17b0 : (((rd_T30 l0 t348).f3) == 4) = true := beq_iff_eq.mpr c17; have c17b1 : (((rd_T30 l0 t348).f3) != 4) = false := bne_eq_false_iff_eq.mpr c17; clear c17; by_cases c18 : a2 < (wrap64 (((rd_T30 l0 t348).f4) + 1800))
        ·
         rw [if_pos c18] at H
         have c18b0 : decide (a2 < (wrap64 (((rd_T30 l0 t348).f4) + 1800))) = true := decide_eq_true c18; clear c18; simp only [Option.some.injEq, Prod.mk.injEq] at H
         obtain ⟨rfl, rfl⟩ := H; have hcz19_0 : wc.cell? ⟨gb351, 0, none⟩ = some (.int .i64 ((rd_T30 l0 t348).f0)) := (blk_cell BK351.out 0).trans rfl; have hcz19_1 : wc.cell? ⟨gb351, 1, none⟩ = some (.int .i64 ((rd_T30 l0 t348).f1)) := (blk_cell BK351.out 1).trans rfl; have hcz19_2 : wc.cell? ⟨gb351, 2, none⟩ = some (.int .i64 ((rd_T30 l0 t348).f2)) := (blk_cell BK351.out 2).trans rfl; have hcz19_3 : wc.cell? ⟨gb351, 3, none⟩ = some (.int .i64 ((rd_T30 l0 t348).f3)) := (blk_cell BK351.out 3).trans rfl; have hcz19_4 : wc.cell? ⟨gb351, 4, none⟩ = some (.int .i64 ((rd_T30 l0 t348).f4)) := (blk_cell BK351.out 4).trans rfl; have hcz19_5 : wc.cell? ⟨gb351, 5, none⟩ = some (.int .i64 ((rd_T30 l0 t348).f5.f0)) := (blk_cell BK351.out 5).trans rfl; have hcz19_6 : wc.cell? ⟨gb351, 6, none⟩ = some (.int .i64 ((rd_T30 l0 t348).f5.f1)) := (blk_cell BK351.out 6).trans rfl; have hfz19_0 := blk_frozen BK351.out 0; have hfz19_1 := blk_frozen BK351.out 1; have hfz19_2 := blk_frozen BK351.out 2; have hfz19_3 := blk_frozen BK351.out 3; have hfz19_4 := blk_frozen BK351.out 4; have hfz19_5 := blk_frozen BK351.out 5; have hfz19_6 := blk_frozen BK351.out 6; go_wp2
         go_ret2
         exact ⟨_, by first | rfl | (simp [errW_none, errW_some] <;> rfl) | (simp [*, errW_none, errW_some] <;> rfl), by first | exact Kd.R_nil _ _ _ _ _ | exact Kd.N_nil _ _ _ _ _ | exact Kd.V_nil _ _ _ _ _ | exact Kd.Q_nil _ _ _ _ _ | exact Kd.S_nil _ _ _ _ _, by repeat (first | (with_reducible first | exact HB.out | apply lA_ | apply lN_ | apply lD_ | refine lS_ ?_ GE351.out) | exact HB.out)⟩
        ·
         rw [if_neg c18] at H
         have c18b0 : decide (a2 < (wrap64 (((rd_T30 l0 t348).f4) + 1800))) = false := decide_eq_false c18; clear c18; replace H := Option.bind_eq_some_iff.mp H; obtain ⟨t352, A200, H⟩ := H; replace H : (some (t352, 0)) = some (r1, r2) := H; have A20 := Aside0.mk A200; clear A200; simp only [Option.some.injEq, Prod.mk.injEq] at H
         obtain ⟨rfl, rfl⟩ := H; have hcz21_0 : wc.cell? ⟨gb351, 0, none⟩ = some (.int .i64 ((rd_T30 l0 t348).f0)) := (blk_cell BK351.out 0).trans rfl; have hcz21_1 : wc.cell? ⟨gb351, 1, none⟩ = some (.int .i64 ((rd_T30 l0 t348).f1)) := (blk_cell BK351.out 1).trans rfl; have hcz21_2 : wc.cell? ⟨gb351, 2, none⟩ = some (.int .i64 ((rd_T30 l0 t348).f2)) := (blk_cell BK351.out 2).trans rfl; have hcz21_3 : wc.cell? ⟨gb351, 3, none⟩ = some (.int .i64 ((rd_T30 l0 t348).f3)) := (blk_cell BK351.out 3).trans rfl; have hcz21_4 : wc.cell? ⟨gb351, 4, none⟩ = some (.int .i64 ((rd_T30 l0 t348).f4)) := (blk_cell BK351.out 4).trans rfl; have hcz21_5 : wc.cell? ⟨gb351, 5, none⟩ = some (.int .i64 ((rd_T30 l0 t348).f5.f0)) := (blk_cell BK351.out 5).trans rfl; have hcz21_6 : wc.cell? ⟨gb351, 6, none⟩ = some (.int .i64 ((rd_T30 l0 t348).f5.f1)) := (blk_cell BK351.out 6).trans rfl; have hfz21_0 := blk_frozen BK351.out 0; have hfz21_1 := blk_frozen BK351.out 1; have hfz21_2 := blk_frozen BK351.out 2; have hfz21_3 := blk_frozen BK351.out 3; have hfz21_4 := blk_frozen BK351.out 4; have hfz21_5 := blk_frozen BK351.out 5; have hfz21_6 := blk_frozen BK351.out 6
         go_wp2_with (first | ((with_reducible refine gate_callee (f := 49) rfl ?_); refine goesL_ (some 51) rfl rfl Try.func49 (by kernel_rfl) rfl #[.slice (some ad350) l0.length c0, .int .i64 t348, .int .i64 6, .int .i64 a2] rfl (by (try simp only [List.map_toArray, List.map_cons, List.map_nil]); first | done | rfl | (simp only [List.length_drop, List.length_take]; rfl)) ?_; (with_reducible refine (skiarearef51_turned.calls kj7 _ _ l0 t348 6 a2 t352 _ ?side1 ?side2 A20.out).mono ?_); (case side1 => repeat (first | exact (Kd.C_below HR0.out HB.out) | (with_reducible refine Kd.cA_ ?_ _) | (with_reducible refine Kd.cN_ ?_ _) | (with_reducible refine Kd.cD_ ?_))); (case side2 => exact HC0.out); rintro e w22 ⟨v353, rfl, ho0, hb⟩; refine ⟨_, rfl, ?_⟩; have n0_ := Aside0.mk (Kd.R_lower (Kd.R_newB ho0 (g := gb351) (o := .cells #[.int .i64 ((rd_T30 l0 t348).f0), .int .i64 ((rd_T30 l0 t348).f1), .int .i64 ((rd_T30 l0 t348).f2), .int .i64 ((rd_T30 l0 t348).f3), .int .i64 ((rd_T30 l0 t348).f4), .int .i64 ((rd_T30 l0 t348).f5.f0), .int .i64 ((rd_T30 l0 t348).f5.f1)] 30 (0, 0)) (by (with_reducible repeat (first | refine bN_ ?_ _ | refine bD_ ?_ | refine bA_ ?_ _)); exact BK351.out)) (below_size (by repeat (first | (with_reducible first | exact HB.out | apply lA_ | apply lN_ | apply lD_ | refine lS_ ?_ GE351.out) | exact HB.out)))); have n1_ := Aside0.mk (blk_below (g := gb351) (o := .cells #[.int .i64 ((rd_T30 l0 t348).f0), .int .i64 ((rd_T30 l0 t348).f1), .int .i64 ((rd_T30 l0 t348).f2), .int .i64 ((rd_T30 l0 t348).f3), .int .i64 ((rd_T30 l0 t348).f4), .int .i64 ((rd_T30 l0 t348).f5.f0), .int .i64 ((rd_T30 l0 t348).f5.f1)] 30 (0, 0)) (by (with_reducible repeat (first | refine bN_ ?_ _ | refine bD_ ?_ | refine bA_ ?_ _)); exact BK351.out) hb); have n2_ := Aside0.mk (below_step (by repeat (first | (with_reducible first | exact HB.out | apply lA_ | apply lN_ | apply lD_ | refine lS_ ?_ GE351.out) | exact HB.out)) hb); clear BK351; clear HB; have HO354 := n0_; have BK351 := n1_; have HB := n2_; clear n0_ n1_ n2_; (try clear hb); (try clear hb2); (try clear hk); (try clear hi); (try clear ho0)))
         go_ret2
         exact ⟨_, by first | rfl | (simp [errW_none, errW_some] <;> rfl) | (simp [*, errW_none, errW_some] <;> rfl), by (with_reducible repeat (first | apply Kd.rA_ | apply Kd.rN_ | apply Kd.rD_)); exact Kd.R_mono HO354.out (fun _ hk => trivial), by repeat (first | (with_reducible first | exact HB.out | apply lA_ | apply lN_ | apply lD_ | refine lS_ ?_ GE351.out) | exact HB.out)⟩
       ·
        rw [if_neg c17] at H
        have c17b0 : (((rd_T30 l0 t348).f3) == 4) = false := beq_eq_false_iff_ne.mpr c17; have c17b1 : (((rd_T30 l0 t348).f3) != 4) = true := bne_iff_ne.mpr c17; replace H := Option.bind_eq_some_iff.mp H; obtain ⟨t355, A230, H⟩ := H; replace H : (some (t355, 0)) = some (r1, r2) := H; have A23 := Aside0.mk A230; clear A230; simp only [Option.some.injEq, Prod.mk.injEq] at H
        obtain ⟨rfl, rfl⟩ := H; have hcz24_0 : wc.cell? ⟨gb351, 0, none⟩ = some (.int .i64 ((rd_T30 l0 t348).f0)) := (blk_cell BK351.out 0).trans rfl; have hcz24_1 : wc.cell? ⟨gb351, 1, none⟩ = some (.int .i64 ((rd_T30 l0 t348).f1)) := (blk_cell BK351.out 1).trans rfl; have hcz24_2 : wc.cell? ⟨gb351, 2, none⟩ = some (.int .i64 ((rd_T30 l0 t348).f2)) := (blk_cell BK351.out 2).trans rfl; have hcz24_3 : wc.cell? ⟨gb351, 3, none⟩ = some (.int .i64 ((rd_T30 l0 t348).f3)) := (blk_cell BK351.out 3).trans rfl; have hcz24_4 : wc.cell? ⟨gb351, 4, none⟩ = some (.int .i64 ((rd_T30 l0 t348).f4)) := (blk_cell BK351.out 4).trans rfl; have hcz24_5 : wc.cell? ⟨gb351, 5, none⟩ = some (.int .i64 ((rd_T30 l0 t348).f5.f0)) := (blk_cell BK351.out 5).trans rfl; have hcz24_6 : wc.cell? ⟨gb351, 6, none⟩ = some (.int .i64 ((rd_T30 l0 t348).f5.f1)) := (blk_cell BK351.out 6).trans rfl; have hfz24_0 := blk_frozen BK351.out 0; have hfz24_1 := blk_frozen BK351.out 1; have hfz24_2 := blk_frozen BK351.out 2; have hfz24_3 := blk_frozen BK351.out 3; have hfz24_4 := blk_frozen BK351.out 4; have hfz24_5 := blk_frozen BK351.out 5; have hfz24_6 := blk_frozen BK351.out 6
        go_wp2_with (first | ((with_reducible refine gate_callee (f := 49) rfl ?_); refine goesL_ (some 51) rfl rfl Try.func49 (by kernel_rfl) rfl #[.slice (some ad350) l0.length c0, .int .i64 t348, .int .i64 6, .int .i64 a2] rfl (by (try simp only [List.map_toArray, List.map_cons, List.map_nil]); first | done | rfl | (simp only [List.length_drop, List.length_take]; rfl)) ?_; (with_reducible refine (skiarearef51_turned.calls kj7 _ _ l0 t348 6 a2 t355 _ ?side1 ?side2 A23.out).mono ?_); (case side1 => repeat (first | exact (Kd.C_below HR0.out HB.out) | (with_reducible refine Kd.cA_ ?_ _) | (with_reducible refine Kd.cN_ ?_ _) | (with_reducible refine Kd.cD_ ?_))); (case side2 => exact HC0.out); rintro e w25 ⟨v356, rfl, ho0, hb⟩; refine ⟨_, rfl, ?_⟩; have n0_ := Aside0.mk (Kd.R_lower (Kd.R_newB ho0 (g := gb351) (o := .cells #[.int .i64 ((rd_T30 l0 t348).f0), .int .i64 ((rd_T30 l0 t348).f1), .int .i64 ((rd_T30 l0 t348).f2), .int .i64 ((rd_T30 l0 t348).f3), .int .i64 ((rd_T30 l0 t348).f4), .int .i64 ((rd_T30 l0 t348).f5.f0), .int .i64 ((rd_T30 l0 t348).f5.f1)] 30 (0, 0)) (by (with_reducible repeat (first | refine bN_ ?_ _ | refine bD_ ?_ | refine bA_ ?_ _)); exact BK351.out)) (below_size (by repeat (first | (with_reducible first | exact HB.out | apply lA_ | apply lN_ | apply lD_ | refine lS_ ?_ GE351.out) | exact HB.out)))); have n1_ := Aside0.mk (blk_below (g := gb351) (o := .cells #[.int .i64 ((rd_T30 l0 t348).f0), .int .i64 ((rd_T30 l0 t348).f1), .int .i64 ((rd_T30 l0 t348).f2), .int .i64 ((rd_T30 l0 t348).f3), .int .i64 ((rd_T30 l0 t348).f4), .int .i64 ((rd_T30 l0 t348).f5.f0), .int .i64 ((rd_T30 l0 t348).f5.f1)] 30 (0, 0)) (by (with_reducible repeat (first | refine bN_ ?_ _ | refine bD_ ?_ | refine bA_ ?_ _)); exact BK351.out) hb); have n2_ := Aside0.mk (below_step (by repeat (first | (with_reducible first | exact HB.out | apply lA_ | apply lN_ | apply lD_ | refine lS_ ?_ GE351.out) | exact HB.out)) hb); clear BK351; clear HB; have HO357 := n0_; have BK351 := n1_; have HB := n2_; clear n0_ n1_ n2_; (try clear hb); (try clear hb2); (try clear hk); (try clear hi); (try clear ho0)))
        go_ret2
        exact ⟨_, by first | rfl | (simp [errW_none, errW_some] <;> rfl) | (simp [*, errW_none, errW_some] <;> rfl), by (with_reducible repeat (first | apply Kd.rA_ | apply Kd.rN_ | apply Kd.rD_)); exact Kd.R_mono HO357.out (fun _ hk => trivial), by repeat (first | (with_reducible first | exact HB.out | apply lA_ | apply lN_ | apply lD_ | refine lS_ ?_ GE351.out) | exact HB.out)⟩
   ·
    rw [if_neg c7] at H
    exact absurd H (by simp)
  ·
   rw [if_neg c6] at H
   exact absurd H (by simp)
 ·
  rw [if_neg c5] at H
  have c5b0 : (t349 == 0) = false := beq_eq_false_iff_ne.mpr c5; have c5b1 : (t349 != 0) = true := bne_iff_ne.mpr c5; simp only [Option.some.injEq, Prod.mk.injEq] at H
  obtain ⟨rfl, rfl⟩ := H; go_enter Try.func29, Try.ntmps29
  go_wp2_with (first | ((with_reducible refine gate_callee (f := 47) rfl ?_); refine goesL_ (some 15) rfl rfl Try.func47 (by kernel_rfl) rfl #[.slice A0 l0.length c0, .int .i64 a1, .int .i64 a2] rfl (by (try simp only [List.map_toArray, List.map_cons, List.map_nil]); first | done | rfl | (simp only [List.length_drop, List.length_take]; rfl)) ?_; (with_reducible refine (skiarearef51_common.calls k _ _ l0 a1 a2 t348 t349 _ ?side1 ?side2 A4.out).mono ?_); (case side1 => repeat (first | exact HR0.out | (with_reducible refine Kd.cA_ ?_ _) | (with_reducible refine Kd.cN_ ?_ _) | (with_reducible refine Kd.cD_ ?_))); (case side2 => exact HC0.out); rintro e w' ⟨rfl, ⟨nd, rfl⟩⟩; refine ⟨_, rfl, ?_⟩))
  go_ret2
  exact ⟨_, by first | rfl | (simp [errW_none, errW_some] <;> rfl) | (simp [*, errW_none, errW_some] <;> rfl), by first | exact Kd.R_nil _ _ _ _ _ | exact Kd.N_nil _ _ _ _ _ | exact Kd.V_nil _ _ _ _ _ | exact Kd.Q_nil _ _ _ _ _ | exact Kd.S_nil _ _ _ _ _, by repeat (first | (with_reducible first | exact HB.out | apply lA_ | apply lN_ | apply lD_) | exact HB.out)⟩

end Go.Proofs.Ytjlfaoaoinhebaa.A
