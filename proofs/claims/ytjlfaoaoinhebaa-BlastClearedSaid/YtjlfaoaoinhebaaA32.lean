-- PRINTED by print.py (a twelfth state) out of the translation. Not trusted: Lean checks it.
import Derived.Test.YtjlfaoaoinhebaaA0
import Derived.Test.YtjlfaoaoinhebaaA17
import Derived.Test.YtjlfaoaoinhebaaA31
namespace Go.Proofs.Ytjlfaoaoinhebaa.A
open Go.RowKit Go.Proofs.YtjlfaoaoinhebaaW.PrintWords Go.Proofs.YtjlfaoaoinhebaaW.PrintLast Go.Proofs.YtjlfaoaoinhebaaW.PrintMore
attribute [local go_sem] max2_int min2_int max_two min_two max_three min_three max_four min_four   -- for this text's walks alone
set_option linter.unusedVariables false
set_option linter.unusedSimpArgs false

mutual
def skiarealaw51_BlastCleared.l0 : Nat → List (S46) → List (S30) → List (S46) → Int → Option (Bool)
 | 0, _, _, _, _ => none
 | k + 1, x0, x3, x4, x5 => if x5 < (x0.length : Int) then (if 0 ≤ x5 then ((skiarealaw51_do.f x3 ((rd_T46 x0 x5).f0) ((rd_T46 x0 x5).f1) ((rd_T46 x0 x5).f2) ((rd_T46 x0 x5).f3) ((rd_T46 x0 x5).f4) ((rd_T46 x0 x5).f5) ((rd_T46 x0 x5).f6) ((rd_T46 x0 x5).f7) ((rd_T46 x0 x5).f8)).bind fun bt421 => (if bt421.2 = true then ((skiarealaw51_find.f k x3 ((rd_T46 x0 x5).f1)).bind fun bt425 => ((skiarealaw51_find.f k bt421.1 ((rd_T46 x0 x5).f1)).bind fun bt434 => (if bt434.2.2.2.2.2.2.2 = true then (if bt434.2.2.2.2.1 = ((rd_T46 x0 x5).f4) then (if bt425.2.2.2.2.2.2.2 = true then (skiarealaw51_BlastCleared.j1 k x0 x4 x5 bt421.1 bt425.2.2.2.2.2.2.2 (decide (((rd_T46 x0 x5).f4) < bt425.2.2.2.2.1)) ((rd_T46 x0 x5).f0) ((rd_T46 x0 x5).f1) ((rd_T46 x0 x5).f2) ((rd_T46 x0 x5).f3) ((rd_T46 x0 x5).f4) ((rd_T46 x0 x5).f5) ((rd_T46 x0 x5).f6) ((rd_T46 x0 x5).f7) ((rd_T46 x0 x5).f8) bt425.1 bt425.2.1 bt425.2.2.1 bt425.2.2.2.1 bt425.2.2.2.2.1 bt425.2.2.2.2.2.1 bt425.2.2.2.2.2.2.1 bt434.1 bt434.2.1 bt434.2.2.1 bt434.2.2.2.1 bt434.2.2.2.2.1 bt434.2.2.2.2.2.1 bt434.2.2.2.2.2.2.1) else (skiarealaw51_BlastCleared.j1 k x0 x4 x5 bt421.1 bt425.2.2.2.2.2.2.2 false ((rd_T46 x0 x5).f0) ((rd_T46 x0 x5).f1) ((rd_T46 x0 x5).f2) ((rd_T46 x0 x5).f3) ((rd_T46 x0 x5).f4) ((rd_T46 x0 x5).f5) ((rd_T46 x0 x5).f6) ((rd_T46 x0 x5).f7) ((rd_T46 x0 x5).f8) bt425.1 bt425.2.1 bt425.2.2.1 bt425.2.2.2.1 bt425.2.2.2.2.1 bt425.2.2.2.2.2.1 bt425.2.2.2.2.2.2.1 bt434.1 bt434.2.1 bt434.2.2.1 bt434.2.2.2.1 bt434.2.2.2.2.1 bt434.2.2.2.2.2.1 bt434.2.2.2.2.2.2.1)) else (none)) else (none)))) else (skiarealaw51_BlastCleared.l0 k x0 x3 x4 (wrap64 (x5 + 1))))) else (none)) else (some true)
def skiarealaw51_BlastCleared.j1 : Nat → List (S46) → List (S46) → Int → List (S30) → Bool → Bool → Int → Int → Int → Int → Int → Int → Int → Bool → Bool → Int → Int → Int → Int → Int → Int → Int → Int → Int → Int → Int → Int → Int → Int → Option (Bool)
 | 0, _, _, _, _, _, _, _, _, _, _, _, _, _, _, _, _, _, _, _, _, _, _, _, _, _, _, _, _, _ => none
 | k + 1, x0, x4, x5, x7, x10, x68, x421000, x421001, x421002, x421003, x421004, x421005, x421006, x421007, x421008, x434000, x434001, x434002, x434003, x434004, x434005, x434006, x443000, x443001, x443002, x443003, x443004, x443005, x443006 => if x68 = true then (none) else (if x421000 = 3 then (if x10 = true then (if x421008 = true then (if x421003 = x434002 then ((skiarealaw51_done.f k x4 1 x434000 x434001 x434002 x434003 x434004 x434005 x434006 0).bind fun t443 => (if t443 = true then ((skiarealaw51_done.f k x4 2 x434000 x434001 x434002 x434003 x434004 x434005 x434006 x434002).bind fun t444 => (skiarealaw51_BlastCleared.j2 k x0 x4 x5 x7 (!t444) x421000 x421001 x421002 x421003 x421004 x421005 x421006 x421007 x421008 x443000 x443001 x443002 x443003 x443004 x443005 x443006)) else (none))) else (none)) else (none)) else (none)) else (skiarealaw51_BlastCleared.j2 k x0 x4 x5 x7 false x421000 x421001 x421002 x421003 x421004 x421005 x421006 x421007 x421008 x443000 x443001 x443002 x443003 x443004 x443005 x443006))
def skiarealaw51_BlastCleared.j2 : Nat → List (S46) → List (S46) → Int → List (S30) → Bool → Int → Int → Int → Int → Int → Int → Int → Bool → Bool → Int → Int → Int → Int → Int → Int → Int → Option (Bool)
 | 0, _, _, _, _, _, _, _, _, _, _, _, _, _, _, _, _, _, _, _, _, _ => none
 | k + 1, x0, x4, x5, x7, x101, x421000, x421001, x421002, x421003, x421004, x421005, x421006, x421007, x421008, x443000, x443001, x443002, x443003, x443004, x443005, x443006 => if x101 = true then (none) else (if x421000 = 3 then (if x4.length < 2199023255552 then (skiarealaw51_BlastCleared.l0 k x0 x7 (x4 ++ [(⟨x421000, x421001, x421002, x421003, x421004, x421005, x421006, x421007, x421008⟩ : S46)]) (wrap64 (x5 + 1))) else (none)) else (if x443003 = 3 then (none) else (if x443003 = 4 then (none) else (if x4.length < 2199023255552 then (skiarealaw51_BlastCleared.l0 k x0 x7 (x4 ++ [(⟨x421000, x421001, x421002, x421003, x421004, x421005, x421006, x421007, x421008⟩ : S46)]) (wrap64 (x5 + 1))) else (none)))))
end
def skiarealaw51_BlastCleared.f (k : Nat) (l0 : List (S46)) : Option (Bool) := (skiarealaw51_alive.f k).bind fun t418 => (if t418 = true then (if (l0.length : Int) > 40 then (some true) else (skiarealaw51_BlastCleared.l0 k l0 ([] : List (S30)) ([] : List (S46)) 0)) else (none))
theorem skiarealaw51_BlastCleared.mono_l : ∀ k, (∀ y0 y1 y2 y3, LeO (skiarealaw51_BlastCleared.l0 k y0 y1 y2 y3) (skiarealaw51_BlastCleared.l0 (k + 1) y0 y1 y2 y3)) ∧ (∀ y0 y1 y2 y3 y4 y5 y6 y7 y8 y9 y10 y11 y12 y13 y14 y15 y16 y17 y18 y19 y20 y21 y22 y23 y24 y25 y26 y27 y28, LeO (skiarealaw51_BlastCleared.j1 k y0 y1 y2 y3 y4 y5 y6 y7 y8 y9 y10 y11 y12 y13 y14 y15 y16 y17 y18 y19 y20 y21 y22 y23 y24 y25 y26 y27 y28) (skiarealaw51_BlastCleared.j1 (k + 1) y0 y1 y2 y3 y4 y5 y6 y7 y8 y9 y10 y11 y12 y13 y14 y15 y16 y17 y18 y19 y20 y21 y22 y23 y24 y25 y26 y27 y28)) ∧ (∀ y0 y1 y2 y3 y4 y5 y6 y7 y8 y9 y10 y11 y12 y13 y14 y15 y16 y17 y18 y19 y20, LeO (skiarealaw51_BlastCleared.j2 k y0 y1 y2 y3 y4 y5 y6 y7 y8 y9 y10 y11 y12 y13 y14 y15 y16 y17 y18 y19 y20) (skiarealaw51_BlastCleared.j2 (k + 1) y0 y1 y2 y3 y4 y5 y6 y7 y8 y9 y10 y11 y12 y13 y14 y15 y16 y17 y18 y19 y20))
 | 0 => ⟨fun _ _ _ _ r h => by simp [skiarealaw51_BlastCleared.l0] at h, fun _ _ _ _ _ _ _ _ _ _ _ _ _ _ _ _ _ _ _ _ _ _ _ _ _ _ _ _ _ r h => by simp [skiarealaw51_BlastCleared.j1] at h, fun _ _ _ _ _ _ _ _ _ _ _ _ _ _ _ _ _ _ _ _ _ r h => by simp [skiarealaw51_BlastCleared.j2] at h⟩
 | k + 1 => by
  obtain ⟨ih0, ih1, ih2⟩ := skiarealaw51_BlastCleared.mono_l k; refine ⟨?_, ?_, ?_⟩
  ·
   intro y0 y1 y2 y3; unfold skiarealaw51_BlastCleared.l0
   repeat' first
   | (with_reducible exact ih0 _ _ _ _)
   | (with_reducible exact ih1 _ _ _ _ _ _ _ _ _ _ _ _ _ _ _ _ _ _ _ _ _ _ _ _ _ _ _ _ _)
   | (with_reducible exact ih2 _ _ _ _ _ _ _ _ _ _ _ _ _ _ _ _ _ _ _ _ _)
   | (with_reducible exact skiarealaw51_alive.mono _)
   | (with_reducible exact skiarealaw51_done.mono _ _ _ _ _ _ _ _ _ _ _)
   | (with_reducible exact skiarealaw51_find.mono _ _ _)
   | (with_reducible exact LeO.refl _)
   | (with_reducible exact LeO.none _)
   | (with_reducible refine LeO.ite ?_ ?_)
   | (with_reducible refine LeO.bind ?_ (fun _ => ?_))
   | exact ih0 _ _ _ _
   | exact ih1 _ _ _ _ _ _ _ _ _ _ _ _ _ _ _ _ _ _ _ _ _ _ _ _ _ _ _ _ _
   | exact ih2 _ _ _ _ _ _ _ _ _ _ _ _ _ _ _ _ _ _ _ _ _
   | exact skiarealaw51_alive.mono _
   | exact skiarealaw51_done.mono _ _ _ _ _ _ _ _ _ _ _
   | exact skiarealaw51_find.mono _ _ _
   | exact LeO.none _
   | refine LeO.ite ?_ ?_
   | refine LeO.bind ?_ (fun _ => ?_)
  ·
   intro y0 y1 y2 y3 y4 y5 y6 y7 y8 y9 y10 y11 y12 y13 y14 y15 y16 y17 y18 y19 y20 y21 y22 y23 y24 y25 y26 y27 y28; unfold skiarealaw51_BlastCleared.j1
   repeat' first
   | (with_reducible exact ih0 _ _ _ _)
   | (with_reducible exact ih1 _ _ _ _ _ _ _ _ _ _ _ _ _ _ _ _ _ _ _ _ _ _ _ _ _ _ _ _ _)
   | (with_reducible exact ih2 _ _ _ _ _ _ _ _ _ _ _ _ _ _ _ _ _ _ _ _ _)
   | (with_reducible exact skiarealaw51_alive.mono _)
   | (with_reducible exact skiarealaw51_done.mono _ _ _ _ _ _ _ _ _ _ _)
   | (with_reducible exact skiarealaw51_find.mono _ _ _)
   | (with_reducible exact LeO.refl _)
   | (with_reducible exact LeO.none _)
   | (with_reducible refine LeO.ite ?_ ?_)
   | (with_reducible refine LeO.bind ?_ (fun _ => ?_))
   | exact ih0 _ _ _ _
   | exact ih1 _ _ _ _ _ _ _ _ _ _ _ _ _ _ _ _ _ _ _ _ _ _ _ _ _ _ _ _ _
   | exact ih2 _ _ _ _ _ _ _ _ _ _ _ _ _ _ _ _ _ _ _ _ _
   | exact skiarealaw51_alive.mono _
   | exact skiarealaw51_done.mono _ _ _ _ _ _ _ _ _ _ _
   | exact skiarealaw51_find.mono _ _ _
   | exact LeO.none _
   | refine LeO.ite ?_ ?_
   | refine LeO.bind ?_ (fun _ => ?_)
  ·
   intro y0 y1 y2 y3 y4 y5 y6 y7 y8 y9 y10 y11 y12 y13 y14 y15 y16 y17 y18 y19 y20; unfold skiarealaw51_BlastCleared.j2
   repeat' first
   | (with_reducible exact ih0 _ _ _ _)
   | (with_reducible exact ih1 _ _ _ _ _ _ _ _ _ _ _ _ _ _ _ _ _ _ _ _ _ _ _ _ _ _ _ _ _)
   | (with_reducible exact ih2 _ _ _ _ _ _ _ _ _ _ _ _ _ _ _ _ _ _ _ _ _)
   | (with_reducible exact skiarealaw51_alive.mono _)
   | (with_reducible exact skiarealaw51_done.mono _ _ _ _ _ _ _ _ _ _ _)
   | (with_reducible exact skiarealaw51_find.mono _ _ _)
   | (with_reducible exact LeO.refl _)
   | (with_reducible exact LeO.none _)
   | (with_reducible refine LeO.ite ?_ ?_)
   | (with_reducible refine LeO.bind ?_ (fun _ => ?_))
   | exact ih0 _ _ _ _
   | exact ih1 _ _ _ _ _ _ _ _ _ _ _ _ _ _ _ _ _ _ _ _ _ _ _ _ _ _ _ _ _
   | exact ih2 _ _ _ _ _ _ _ _ _ _ _ _ _ _ _ _ _ _ _ _ _
   | exact skiarealaw51_alive.mono _
   | exact skiarealaw51_done.mono _ _ _ _ _ _ _ _ _ _ _
   | exact skiarealaw51_find.mono _ _ _
   | exact LeO.none _
   | refine LeO.ite ?_ ?_
   | refine LeO.bind ?_ (fun _ => ?_)
theorem skiarealaw51_BlastCleared.mono : ∀ a0 k, LeO (skiarealaw51_BlastCleared.f k a0) (skiarealaw51_BlastCleared.f (k + 1) a0) := by
 intro a0 k; obtain ⟨ih0, ih1, ih2⟩ := skiarealaw51_BlastCleared.mono_l k; unfold skiarealaw51_BlastCleared.f
 repeat' first
   | (with_reducible exact ih0 _ _ _ _)
   | (with_reducible exact ih1 _ _ _ _ _ _ _ _ _ _ _ _ _ _ _ _ _ _ _ _ _ _ _ _ _ _ _ _ _)
   | (with_reducible exact ih2 _ _ _ _ _ _ _ _ _ _ _ _ _ _ _ _ _ _ _ _ _)
   | (with_reducible exact skiarealaw51_alive.mono _)
   | (with_reducible exact skiarealaw51_done.mono _ _ _ _ _ _ _ _ _ _ _)
   | (with_reducible exact skiarealaw51_find.mono _ _ _)
   | (with_reducible exact LeO.refl _)
   | (with_reducible exact LeO.none _)
   | (with_reducible refine LeO.ite ?_ ?_)
   | (with_reducible refine LeO.bind ?_ (fun _ => ?_))
   | exact ih0 _ _ _ _
   | exact ih1 _ _ _ _ _ _ _ _ _ _ _ _ _ _ _ _ _ _ _ _ _ _ _ _ _ _ _ _ _
   | exact ih2 _ _ _ _ _ _ _ _ _ _ _ _ _ _ _ _ _ _ _ _ _
   | exact skiarealaw51_alive.mono _
   | exact skiarealaw51_done.mono _ _ _ _ _ _ _ _ _ _ _
   | exact skiarealaw51_find.mono _ _ _
   | exact LeO.none _
   | refine LeO.ite ?_ ?_
   | refine LeO.bind ?_ (fun _ => ?_)
set_option maxHeartbeats 8000000 in
set_option maxRecDepth 100000 in
theorem skiarealaw51_BlastCleared.calls (k : Nat) (A0 : Option Addr) (c0 : Nat) (l0 : List (S46)) (r : Bool) (w : World) (hr0 : Kd.C k46 w A0 l0.length l0) (hc0 : l0.length ≤ c0) (h : skiarealaw51_BlastCleared.f k l0 = some r) :
  Calls Try.prog 8 #[.slice A0 l0.length c0] w fun e w' => e = .returned (.bool r) ∧ Below w.heap.size w w' := by
 have hu46 := Try.underlying46; have hu30 := Try.underlying30; have HR0 := Aside0.mk hr0; have HC0 := Aside0.mk hc0; clear hr0 hc0; have HB := Aside0.mk (Below.refl w.heap.size w); have H : ((skiarealaw51_alive.f k).bind fun t418 => (if t418 = true then (if (l0.length : Int) > 40 then (some true) else (skiarealaw51_BlastCleared.l0 k l0 ([] : List (S30)) ([] : List (S46)) 0)) else (none))) = some r := h; clear h; replace H := Option.bind_eq_some_iff.mp H; obtain ⟨t418, A20, H⟩ := H; replace H : (if t418 = true then (if (l0.length : Int) > 40 then (some true) else (skiarealaw51_BlastCleared.l0 k l0 ([] : List (S30)) ([] : List (S46)) 0)) else (none)) = some r := H; have A2 := Aside0.mk A20; clear A20; by_cases c3 : t418 = true
 ·
  subst c3; have H1 : (if (l0.length : Int) > 40 then (some true) else (skiarealaw51_BlastCleared.l0 k l0 ([] : List (S30)) ([] : List (S46)) 0)) = some r := by rw [if_pos rfl] at H; exact H
  clear H; have H := H1; clear H1; by_cases c4 : (l0.length : Int) > 40
  ·
   rw [if_pos c4] at H
   have c4b0 : decide (40 < (l0.length : Int)) = true := decide_eq_true c4; have c4b1 : decide (40 < l0.length) = true := decide_eq_true (by omega); clear c4; obtain rfl := Option.some.inj H; go_enter Try.func8, Try.ntmps8
   go_wp2_with (first | ((with_reducible refine gate_callee (f := 11) rfl ?_); refine goesL_ (some 13) rfl rfl Try.func11 (by kernel_rfl) rfl #[] rfl (by (try simp only [List.map_toArray, List.map_cons, List.map_nil]); first | done | rfl | (simp only [List.length_drop, List.length_take]; rfl)) ?_; (with_reducible refine (skiarealaw51_alive.calls k  true _ A2.out).mono ?_); rintro e w5 ⟨rfl, hb⟩; refine ⟨_, rfl, ?_⟩; have n0_ := Aside0.mk (below_step (by repeat (first | (with_reducible first | exact HB.out | apply lA_ | apply lN_ | apply lD_) | exact HB.out)) hb); clear HB; have HB := n0_; clear n0_; (try clear hb); (try clear hb2); (try clear hk); (try clear hi)))
   go_ret
   exact ⟨by first | rfl | (simp [errW_none, errW_some] <;> rfl) | (simp [*, errW_none, errW_some] <;> rfl), by repeat (first | (with_reducible first | exact HB.out | apply lA_ | apply lN_ | apply lD_) | exact HB.out)⟩
  ·
   rw [if_neg c4] at H
   have c4b0 : decide (40 < (l0.length : Int)) = false := decide_eq_false c4; have c4b1 : decide (40 < l0.length) = false := decide_eq_false (by omega); clear c4; have H' := Aside0.mk H; clear H; go_enter Try.func8, Try.ntmps8
   go_wp2_with (first | ((with_reducible refine gate_callee (f := 11) rfl ?_); refine goesL_ (some 13) rfl rfl Try.func11 (by kernel_rfl) rfl #[] rfl (by (try simp only [List.map_toArray, List.map_cons, List.map_nil]); first | done | rfl | (simp only [List.length_drop, List.length_take]; rfl)) ?_; (with_reducible refine (skiarealaw51_alive.calls k  true _ A2.out).mono ?_); rintro e w6 ⟨rfl, hb⟩; refine ⟨_, rfl, ?_⟩; have n0_ := Aside0.mk (below_step (by repeat (first | (with_reducible first | exact HB.out | apply lA_ | apply lN_ | apply lD_) | exact HB.out)) hb); clear HB; have HB := n0_; clear n0_; (try clear hb); (try clear hb2); (try clear hk); (try clear hi)))
   go_loopg [3, 4, 5] k (fun kq v3 v4 v5 w' => ∃ (x3_1 : List (S30)) (x4_1 : List (S46)) (x5_1 : Int), v5 = .int .i64 x5_1 ∧ Aside0 (skiarealaw51_BlastCleared.l0 kq l0 x3_1 x4_1 x5_1 = some r) ∧ Aside0 (kq ≤ k) ∧ Aside0 (Kd.V k30 30 w' w.heap.size (fun k_ => some k_ ≠ (v4 : Value).ownBlock) v3 x3_1) ∧ Aside0 (Kd.R k46 46 w' w.heap.size (fun _ => True) v4 x4_1) ∧ Aside0 (Below w.heap.size w w'))
   case atStart => exact ⟨(([] : List (S30))), (([] : List (S46))), (0), (by first | rfl | (simp; done) | (simp [*]; done)), H', ⟨Nat.le_refl _⟩, ⟨Kd.V_nil _ _ _ _ _⟩, ⟨by first | exact Kd.R_nil _ _ _ _ _ | exact Kd.N_nil _ _ _ _ _ | exact Kd.V_nil _ _ _ _ _ | exact Kd.Q_nil _ _ _ _ _ | exact Kd.S_nil _ _ _ _ _⟩, ⟨by repeat (first | (with_reducible first | exact HB.out | apply lA_ | apply lN_ | apply lD_) | exact HB.out)⟩⟩
   case round =>
    clear H'; try clear c1
    try clear p2
    try clear c3
    try clear c4
    try clear c4b0
    try clear c4b1
    obtain ⟨x3_1, x4_1, x5_1, rfl, HA, HK1, HO_3, HO_4, HB⟩ := hrel
    cases gk with
    | zero => exact absurd HA.out (by simp [skiarealaw51_BlastCleared.l0])
    | succ k1 =>
     have H := HA.out; clear HA; simp only [skiarealaw51_BlastCleared.l0] at H
     by_cases c7 : x5_1 < (l0.length : Int)
     ·
      rw [if_pos c7] at H
      have c7b0 : decide (x5_1 < (l0.length : Int)) = true := decide_eq_true c7; clear c7; by_cases c8 : 0 ≤ x5_1
      ·
       rw [if_pos c8] at H
       have c8b0 : decide (0 ≤ x5_1) = true := decide_eq_true c8; clear c8; replace H := Option.bind_eq_some_iff.mp H; obtain ⟨⟨t421, t424⟩, A90, H⟩ := H; replace H : (if t424 = true then ((skiarealaw51_find.f k1 x3_1 ((rd_T46 l0 x5_1).f1)).bind fun bt425 => ((skiarealaw51_find.f k1 t421 ((rd_T46 l0 x5_1).f1)).bind fun bt434 => (if bt434.2.2.2.2.2.2.2 = true then (if bt434.2.2.2.2.1 = ((rd_T46 l0 x5_1).f4) then (if bt425.2.2.2.2.2.2.2 = true then (skiarealaw51_BlastCleared.j1 k1 l0 x4_1 x5_1 t421 bt425.2.2.2.2.2.2.2 (decide (((rd_T46 l0 x5_1).f4) < bt425.2.2.2.2.1)) ((rd_T46 l0 x5_1).f0) ((rd_T46 l0 x5_1).f1) ((rd_T46 l0 x5_1).f2) ((rd_T46 l0 x5_1).f3) ((rd_T46 l0 x5_1).f4) ((rd_T46 l0 x5_1).f5) ((rd_T46 l0 x5_1).f6) ((rd_T46 l0 x5_1).f7) ((rd_T46 l0 x5_1).f8) bt425.1 bt425.2.1 bt425.2.2.1 bt425.2.2.2.1 bt425.2.2.2.2.1 bt425.2.2.2.2.2.1 bt425.2.2.2.2.2.2.1 bt434.1 bt434.2.1 bt434.2.2.1 bt434.2.2.2.1 bt434.2.2.2.2.1 bt434.2.2.2.2.2.1 bt434.2.2.2.2.2.2.1) else (skiarealaw51_BlastCleared.j1 k1 l0 x4_1 x5_1 t421 bt425.2.2.2.2.2.2.2 false ((rd_T46 l0 x5_1).f0) ((rd_T46 l0 x5_1).f1) ((rd_T46 l0 x5_1).f2) ((rd_T46 l0 x5_1).f3) ((rd_T46 l0 x5_1).f4) ((rd_T46 l0 x5_1).f5) ((rd_T46 l0 x5_1).f6) ((rd_T46 l0 x5_1).f7) ((rd_T46 l0 x5_1).f8) bt425.1 bt425.2.1 bt425.2.2.1 bt425.2.2.2.1 bt425.2.2.2.2.1 bt425.2.2.2.2.2.1 bt425.2.2.2.2.2.2.1 bt434.1 bt434.2.1 bt434.2.2.1 bt434.2.2.2.1 bt434.2.2.2.2.1 bt434.2.2.2.2.2.1 bt434.2.2.2.2.2.2.1)) else (none)) else (none)))) else (skiarealaw51_BlastCleared.l0 k1 l0 x3_1 x4_1 (wrap64 (x5_1 + 1)))) = some r := H; have A9 := Aside0.mk A90; clear A90; by_cases c10 : t424 = true
       ·
        subst c10; have H1 : ((skiarealaw51_find.f k1 x3_1 ((rd_T46 l0 x5_1).f1)).bind fun bt425 => ((skiarealaw51_find.f k1 t421 ((rd_T46 l0 x5_1).f1)).bind fun bt434 => (if bt434.2.2.2.2.2.2.2 = true then (if bt434.2.2.2.2.1 = ((rd_T46 l0 x5_1).f4) then (if bt425.2.2.2.2.2.2.2 = true then (skiarealaw51_BlastCleared.j1 k1 l0 x4_1 x5_1 t421 bt425.2.2.2.2.2.2.2 (decide (((rd_T46 l0 x5_1).f4) < bt425.2.2.2.2.1)) ((rd_T46 l0 x5_1).f0) ((rd_T46 l0 x5_1).f1) ((rd_T46 l0 x5_1).f2) ((rd_T46 l0 x5_1).f3) ((rd_T46 l0 x5_1).f4) ((rd_T46 l0 x5_1).f5) ((rd_T46 l0 x5_1).f6) ((rd_T46 l0 x5_1).f7) ((rd_T46 l0 x5_1).f8) bt425.1 bt425.2.1 bt425.2.2.1 bt425.2.2.2.1 bt425.2.2.2.2.1 bt425.2.2.2.2.2.1 bt425.2.2.2.2.2.2.1 bt434.1 bt434.2.1 bt434.2.2.1 bt434.2.2.2.1 bt434.2.2.2.2.1 bt434.2.2.2.2.2.1 bt434.2.2.2.2.2.2.1) else (skiarealaw51_BlastCleared.j1 k1 l0 x4_1 x5_1 t421 bt425.2.2.2.2.2.2.2 false ((rd_T46 l0 x5_1).f0) ((rd_T46 l0 x5_1).f1) ((rd_T46 l0 x5_1).f2) ((rd_T46 l0 x5_1).f3) ((rd_T46 l0 x5_1).f4) ((rd_T46 l0 x5_1).f5) ((rd_T46 l0 x5_1).f6) ((rd_T46 l0 x5_1).f7) ((rd_T46 l0 x5_1).f8) bt425.1 bt425.2.1 bt425.2.2.1 bt425.2.2.2.1 bt425.2.2.2.2.1 bt425.2.2.2.2.2.1 bt425.2.2.2.2.2.2.1 bt434.1 bt434.2.1 bt434.2.2.1 bt434.2.2.2.1 bt434.2.2.2.2.1 bt434.2.2.2.2.2.1 bt434.2.2.2.2.2.2.1)) else (none)) else (none)))) = some r := by rw [if_pos rfl] at H; exact H
        clear H; have H := H1; clear H1; replace H := Option.bind_eq_some_iff.mp H; obtain ⟨⟨t425, t426, t427, t428, t429, t430, t431, t432⟩, A110, H⟩ := H; replace H : ((skiarealaw51_find.f k1 t421 ((rd_T46 l0 x5_1).f1)).bind fun bt434 => (if bt434.2.2.2.2.2.2.2 = true then (if bt434.2.2.2.2.1 = ((rd_T46 l0 x5_1).f4) then (if t432 = true then (skiarealaw51_BlastCleared.j1 k1 l0 x4_1 x5_1 t421 t432 (decide (((rd_T46 l0 x5_1).f4) < t429)) ((rd_T46 l0 x5_1).f0) ((rd_T46 l0 x5_1).f1) ((rd_T46 l0 x5_1).f2) ((rd_T46 l0 x5_1).f3) ((rd_T46 l0 x5_1).f4) ((rd_T46 l0 x5_1).f5) ((rd_T46 l0 x5_1).f6) ((rd_T46 l0 x5_1).f7) ((rd_T46 l0 x5_1).f8) t425 t426 t427 t428 t429 t430 t431 bt434.1 bt434.2.1 bt434.2.2.1 bt434.2.2.2.1 bt434.2.2.2.2.1 bt434.2.2.2.2.2.1 bt434.2.2.2.2.2.2.1) else (skiarealaw51_BlastCleared.j1 k1 l0 x4_1 x5_1 t421 t432 false ((rd_T46 l0 x5_1).f0) ((rd_T46 l0 x5_1).f1) ((rd_T46 l0 x5_1).f2) ((rd_T46 l0 x5_1).f3) ((rd_T46 l0 x5_1).f4) ((rd_T46 l0 x5_1).f5) ((rd_T46 l0 x5_1).f6) ((rd_T46 l0 x5_1).f7) ((rd_T46 l0 x5_1).f8) t425 t426 t427 t428 t429 t430 t431 bt434.1 bt434.2.1 bt434.2.2.1 bt434.2.2.2.1 bt434.2.2.2.2.1 bt434.2.2.2.2.2.1 bt434.2.2.2.2.2.2.1)) else (none)) else (none))) = some r := H; have A11 := Aside0.mk A110; clear A110; replace H := Option.bind_eq_some_iff.mp H; obtain ⟨⟨t434, t435, t436, t437, t438, t439, t440, t441⟩, A120, H⟩ := H; replace H : (if t441 = true then (if t438 = ((rd_T46 l0 x5_1).f4) then (if t432 = true then (skiarealaw51_BlastCleared.j1 k1 l0 x4_1 x5_1 t421 t432 (decide (((rd_T46 l0 x5_1).f4) < t429)) ((rd_T46 l0 x5_1).f0) ((rd_T46 l0 x5_1).f1) ((rd_T46 l0 x5_1).f2) ((rd_T46 l0 x5_1).f3) ((rd_T46 l0 x5_1).f4) ((rd_T46 l0 x5_1).f5) ((rd_T46 l0 x5_1).f6) ((rd_T46 l0 x5_1).f7) ((rd_T46 l0 x5_1).f8) t425 t426 t427 t428 t429 t430 t431 t434 t435 t436 t437 t438 t439 t440) else (skiarealaw51_BlastCleared.j1 k1 l0 x4_1 x5_1 t421 t432 false ((rd_T46 l0 x5_1).f0) ((rd_T46 l0 x5_1).f1) ((rd_T46 l0 x5_1).f2) ((rd_T46 l0 x5_1).f3) ((rd_T46 l0 x5_1).f4) ((rd_T46 l0 x5_1).f5) ((rd_T46 l0 x5_1).f6) ((rd_T46 l0 x5_1).f7) ((rd_T46 l0 x5_1).f8) t425 t426 t427 t428 t429 t430 t431 t434 t435 t436 t437 t438 t439 t440)) else (none)) else (none)) = some r := H; have A12 := Aside0.mk A120; clear A120; have HC13 := Aside0.mk H; clear H; have p419 : 0 ≤ (x5_1 : Int) := of_decide_eq_true (by first | (with_reducible assumption) | assumption); have q419 : x5_1 < (l0.length : Int) := of_decide_eq_true (by first | (with_reducible assumption) | assumption); obtain ⟨ad419, e419, hx419_0, hx419_1, hx419_2, hx419_3, hx419_4, hx419_5, hx419_6, hx419_7, hx419_8⟩ := at_T46 HR0.out x5_1 p419 q419
        cases e419
        replace hx419_0 := (HB.out.cell (World.block_lt_of_cell? w _ hx419_0)).trans hx419_0; replace hx419_1 := (HB.out.cell (World.block_lt_of_cell? w _ hx419_1)).trans hx419_1; replace hx419_2 := (HB.out.cell (World.block_lt_of_cell? w _ hx419_2)).trans hx419_2; replace hx419_3 := (HB.out.cell (World.block_lt_of_cell? w _ hx419_3)).trans hx419_3; replace hx419_4 := (HB.out.cell (World.block_lt_of_cell? w _ hx419_4)).trans hx419_4; replace hx419_5 := (HB.out.cell (World.block_lt_of_cell? w _ hx419_5)).trans hx419_5; replace hx419_6 := (HB.out.cell (World.block_lt_of_cell? w _ hx419_6)).trans hx419_6; replace hx419_7 := (HB.out.cell (World.block_lt_of_cell? w _ hx419_7)).trans hx419_7; replace hx419_8 := (HB.out.cell (World.block_lt_of_cell? w _ hx419_8)).trans hx419_8; replace p419 := eq_true p419; replace q419 := eq_true q419
        go_upto_region 15 with (first | ((with_reducible refine gate_dst (N := 6) rfl ?_); refine box_event ?hg (N := 6) ?hd (cs := #[.int .i64 0, .int .i64 0, .int .i64 0, .int .i64 0, .int .i64 0, .int .i64 0, .int .i64 0, .bool false, .bool false]) (t := 46) ?hr ?_; (case hd => rfl); (case hg => rfl); (case hr => first | (go_simp; done) | (go_simp; rfl)); intro gb420 hg w14 hbox hb; have n0_ := Aside0.mk (Kd.V_below (Kd.V_elderB (by (with_reducible repeat (first | apply Kd.V_alloc | apply Kd.V_drewN | apply Kd.V_drew)); exact HO_3.out) gb420 (Nat.le_of_eq hg.symm)) hb); have n1_ := Aside0.mk (Kd.R_below (Kd.R_elderB (by (with_reducible repeat (first | apply Kd.rA_ | apply Kd.rN_ | apply Kd.rD_)); exact HO_4.out) gb420 (Nat.le_of_eq hg.symm)) hb); have n2_ := Aside0.mk (below_step (by repeat (first | (with_reducible first | exact HB.out | apply lA_ | apply lN_ | apply lD_) | exact HB.out)) hb); have n3_ := Aside0.mk (hbox); have n4_ := Aside0.mk ((by rw [hg]; exact (below_size (by repeat (first | (with_reducible first | exact HB.out | apply lA_ | apply lN_ | apply lD_) | exact HB.out))) : w.heap.size ≤ gb420)); have n5_ := Aside0.mk ((by rw [hg]; exact (below_size (by repeat (first | (with_reducible first | exact HB.out | apply lA_ | apply lN_ | apply lD_) | exact HB.out))) : w.heap.size ≤ gb420)); clear HO_3; clear HO_4; clear HB; have HO_3 := n0_; have HO_4 := n1_; have HB := n2_; have BK420 := n3_; have GW420 := n4_; have GE420 := n5_; clear n0_ n1_ n2_ n3_ n4_ n5_; clear hb hbox hg; have hcz15_0 : w14.cell? ⟨gb420, 0, none⟩ = some (.int .i64 0) := (blk_cell BK420.out 0).trans rfl; have hcz15_1 : w14.cell? ⟨gb420, 1, none⟩ = some (.int .i64 0) := (blk_cell BK420.out 1).trans rfl; have hcz15_2 : w14.cell? ⟨gb420, 2, none⟩ = some (.int .i64 0) := (blk_cell BK420.out 2).trans rfl; have hcz15_3 : w14.cell? ⟨gb420, 3, none⟩ = some (.int .i64 0) := (blk_cell BK420.out 3).trans rfl; have hcz15_4 : w14.cell? ⟨gb420, 4, none⟩ = some (.int .i64 0) := (blk_cell BK420.out 4).trans rfl; have hcz15_5 : w14.cell? ⟨gb420, 5, none⟩ = some (.int .i64 0) := (blk_cell BK420.out 5).trans rfl; have hcz15_6 : w14.cell? ⟨gb420, 6, none⟩ = some (.int .i64 0) := (blk_cell BK420.out 6).trans rfl; have hcz15_7 : w14.cell? ⟨gb420, 7, none⟩ = some (.bool false) := (blk_cell BK420.out 7).trans rfl; have hcz15_8 : w14.cell? ⟨gb420, 8, none⟩ = some (.bool false) := (blk_cell BK420.out 8).trans rfl; have hfz15_0 := blk_frozen BK420.out 0; have hfz15_1 := blk_frozen BK420.out 1; have hfz15_2 := blk_frozen BK420.out 2; have hfz15_3 := blk_frozen BK420.out 3; have hfz15_4 := blk_frozen BK420.out 4; have hfz15_5 := blk_frozen BK420.out 5; have hfz15_6 := blk_frozen BK420.out 6; have hfz15_7 := blk_frozen BK420.out 7; have hfz15_8 := blk_frozen BK420.out 8) | ((with_reducible refine gate_store (t := 46) (p := 6) rfl ?_); refine store_event (t := 46) (p := 6) (v := ?vo_w16) (w1 := (((((((((w14.setCell ⟨gb420, 0, none⟩ (.int .i64 ((rd_T46 l0 x5_1).f0))).setCell ⟨gb420, 1, none⟩ (.int .i64 ((rd_T46 l0 x5_1).f1))).setCell ⟨gb420, 2, none⟩ (.int .i64 ((rd_T46 l0 x5_1).f2))).setCell ⟨gb420, 3, none⟩ (.int .i64 ((rd_T46 l0 x5_1).f3))).setCell ⟨gb420, 4, none⟩ (.int .i64 ((rd_T46 l0 x5_1).f4))).setCell ⟨gb420, 5, none⟩ (.int .i64 ((rd_T46 l0 x5_1).f5))).setCell ⟨gb420, 6, none⟩ (.int .i64 ((rd_T46 l0 x5_1).f6))).setCell ⟨gb420, 7, none⟩ (.bool ((rd_T46 l0 x5_1).f7))).setCell ⟨gb420, 8, none⟩ (.bool ((rd_T46 l0 x5_1).f8)))) ?hg ?ho ?hn ?hr ?_; (case ho => rfl); (case hg => rfl); (case hn => rfl); (case hr => first | (go_simp; done) | (go_simp; rfl)); intro w16 hw; have n0_ : Aside0 (Kd.V k30 30 w16 w.heap.size (fun k_ => some k_ ≠ (u4 : Value).ownBlock ∧ k_ ≠ gb420) u3 x3_1) := ⟨(by rw [hw]; exact (by (with_reducible repeat (first | apply Kd.V_alloc | apply Kd.V_drewN | apply Kd.V_drew)); exact Kd.V_mono (Kd.V_far (p := ⟨gb420, 8, none⟩) (Kd.V_far (p := ⟨gb420, 7, none⟩) (Kd.V_far (p := ⟨gb420, 6, none⟩) (Kd.V_far (p := ⟨gb420, 5, none⟩) (Kd.V_far (p := ⟨gb420, 4, none⟩) (Kd.V_far (p := ⟨gb420, 3, none⟩) (Kd.V_far (p := ⟨gb420, 2, none⟩) (Kd.V_far (p := ⟨gb420, 1, none⟩) (Kd.V_far (p := ⟨gb420, 0, none⟩) (Kd.V_mono HO_3.out (fun k_ hk => (⟨hk, hk.2⟩ : _ ∧ k_ ≠ gb420))) (fun _ hk => hk.2) (.int .i64 ((rd_T46 l0 x5_1).f0))) (fun _ hk => hk.2) (.int .i64 ((rd_T46 l0 x5_1).f1))) (fun _ hk => hk.2) (.int .i64 ((rd_T46 l0 x5_1).f2))) (fun _ hk => hk.2) (.int .i64 ((rd_T46 l0 x5_1).f3))) (fun _ hk => hk.2) (.int .i64 ((rd_T46 l0 x5_1).f4))) (fun _ hk => hk.2) (.int .i64 ((rd_T46 l0 x5_1).f5))) (fun _ hk => hk.2) (.int .i64 ((rd_T46 l0 x5_1).f6))) (fun _ hk => hk.2) (.bool ((rd_T46 l0 x5_1).f7))) (fun _ hk => hk.2) (.bool ((rd_T46 l0 x5_1).f8))) (fun _ hk => ⟨hk.1.1, hk.1.2⟩)))⟩; have n1_ : Aside0 (Kd.R k46 46 w16 w.heap.size (fun k_ => k_ ≠ gb420) u4 x4_1) := ⟨(by rw [hw]; exact (by (with_reducible repeat (first | apply Kd.rA_ | apply Kd.rN_ | apply Kd.rD_)); exact Kd.R_mono (Kd.R_far (p := ⟨gb420, 8, none⟩) (Kd.R_far (p := ⟨gb420, 7, none⟩) (Kd.R_far (p := ⟨gb420, 6, none⟩) (Kd.R_far (p := ⟨gb420, 5, none⟩) (Kd.R_far (p := ⟨gb420, 4, none⟩) (Kd.R_far (p := ⟨gb420, 3, none⟩) (Kd.R_far (p := ⟨gb420, 2, none⟩) (Kd.R_far (p := ⟨gb420, 1, none⟩) (Kd.R_far (p := ⟨gb420, 0, none⟩) (Kd.R_mono HO_4.out (fun k_ hk => (⟨hk, hk.2⟩ : _ ∧ k_ ≠ gb420))) (fun _ hk => hk.2) (.int .i64 ((rd_T46 l0 x5_1).f0))) (fun _ hk => hk.2) (.int .i64 ((rd_T46 l0 x5_1).f1))) (fun _ hk => hk.2) (.int .i64 ((rd_T46 l0 x5_1).f2))) (fun _ hk => hk.2) (.int .i64 ((rd_T46 l0 x5_1).f3))) (fun _ hk => hk.2) (.int .i64 ((rd_T46 l0 x5_1).f4))) (fun _ hk => hk.2) (.int .i64 ((rd_T46 l0 x5_1).f5))) (fun _ hk => hk.2) (.int .i64 ((rd_T46 l0 x5_1).f6))) (fun _ hk => hk.2) (.bool ((rd_T46 l0 x5_1).f7))) (fun _ hk => hk.2) (.bool ((rd_T46 l0 x5_1).f8))) (fun _ hk => hk.1.2)))⟩; have n2_ : Aside0 (w16.heap[gb420]? = some (.cells #[.int .i64 ((rd_T46 l0 x5_1).f0), .int .i64 ((rd_T46 l0 x5_1).f1), .int .i64 ((rd_T46 l0 x5_1).f2), .int .i64 ((rd_T46 l0 x5_1).f3), .int .i64 ((rd_T46 l0 x5_1).f4), .int .i64 ((rd_T46 l0 x5_1).f5), .int .i64 ((rd_T46 l0 x5_1).f6), .bool ((rd_T46 l0 x5_1).f7), .bool ((rd_T46 l0 x5_1).f8)] 46 (0, 0))) := ⟨(by rw [hw]; exact (by (with_reducible repeat (first | refine bN_ ?_ _ | refine bD_ ?_ | refine bA_ ?_ _)); refine blk_put (cs := #[.int .i64 ((rd_T46 l0 x5_1).f0), .int .i64 ((rd_T46 l0 x5_1).f1), .int .i64 ((rd_T46 l0 x5_1).f2), .int .i64 ((rd_T46 l0 x5_1).f3), .int .i64 ((rd_T46 l0 x5_1).f4), .int .i64 ((rd_T46 l0 x5_1).f5), .int .i64 ((rd_T46 l0 x5_1).f6), .bool ((rd_T46 l0 x5_1).f7), .bool false]) ?_ 8 _ rfl; (with_reducible repeat (first | refine bN_ ?_ _ | refine bD_ ?_ | refine bA_ ?_ _)); refine blk_put (cs := #[.int .i64 ((rd_T46 l0 x5_1).f0), .int .i64 ((rd_T46 l0 x5_1).f1), .int .i64 ((rd_T46 l0 x5_1).f2), .int .i64 ((rd_T46 l0 x5_1).f3), .int .i64 ((rd_T46 l0 x5_1).f4), .int .i64 ((rd_T46 l0 x5_1).f5), .int .i64 ((rd_T46 l0 x5_1).f6), .bool false, .bool false]) ?_ 7 _ rfl; (with_reducible repeat (first | refine bN_ ?_ _ | refine bD_ ?_ | refine bA_ ?_ _)); refine blk_put (cs := #[.int .i64 ((rd_T46 l0 x5_1).f0), .int .i64 ((rd_T46 l0 x5_1).f1), .int .i64 ((rd_T46 l0 x5_1).f2), .int .i64 ((rd_T46 l0 x5_1).f3), .int .i64 ((rd_T46 l0 x5_1).f4), .int .i64 ((rd_T46 l0 x5_1).f5), .int .i64 0, .bool false, .bool false]) ?_ 6 _ rfl; (with_reducible repeat (first | refine bN_ ?_ _ | refine bD_ ?_ | refine bA_ ?_ _)); refine blk_put (cs := #[.int .i64 ((rd_T46 l0 x5_1).f0), .int .i64 ((rd_T46 l0 x5_1).f1), .int .i64 ((rd_T46 l0 x5_1).f2), .int .i64 ((rd_T46 l0 x5_1).f3), .int .i64 ((rd_T46 l0 x5_1).f4), .int .i64 0, .int .i64 0, .bool false, .bool false]) ?_ 5 _ rfl; (with_reducible repeat (first | refine bN_ ?_ _ | refine bD_ ?_ | refine bA_ ?_ _)); refine blk_put (cs := #[.int .i64 ((rd_T46 l0 x5_1).f0), .int .i64 ((rd_T46 l0 x5_1).f1), .int .i64 ((rd_T46 l0 x5_1).f2), .int .i64 ((rd_T46 l0 x5_1).f3), .int .i64 0, .int .i64 0, .int .i64 0, .bool false, .bool false]) ?_ 4 _ rfl; (with_reducible repeat (first | refine bN_ ?_ _ | refine bD_ ?_ | refine bA_ ?_ _)); refine blk_put (cs := #[.int .i64 ((rd_T46 l0 x5_1).f0), .int .i64 ((rd_T46 l0 x5_1).f1), .int .i64 ((rd_T46 l0 x5_1).f2), .int .i64 0, .int .i64 0, .int .i64 0, .int .i64 0, .bool false, .bool false]) ?_ 3 _ rfl; (with_reducible repeat (first | refine bN_ ?_ _ | refine bD_ ?_ | refine bA_ ?_ _)); refine blk_put (cs := #[.int .i64 ((rd_T46 l0 x5_1).f0), .int .i64 ((rd_T46 l0 x5_1).f1), .int .i64 0, .int .i64 0, .int .i64 0, .int .i64 0, .int .i64 0, .bool false, .bool false]) ?_ 2 _ rfl; (with_reducible repeat (first | refine bN_ ?_ _ | refine bD_ ?_ | refine bA_ ?_ _)); refine blk_put (cs := #[.int .i64 ((rd_T46 l0 x5_1).f0), .int .i64 0, .int .i64 0, .int .i64 0, .int .i64 0, .int .i64 0, .int .i64 0, .bool false, .bool false]) ?_ 1 _ rfl; (with_reducible repeat (first | refine bN_ ?_ _ | refine bD_ ?_ | refine bA_ ?_ _)); refine blk_put (cs := #[.int .i64 0, .int .i64 0, .int .i64 0, .int .i64 0, .int .i64 0, .int .i64 0, .int .i64 0, .bool false, .bool false]) ?_ 0 _ rfl; (with_reducible repeat (first | refine bN_ ?_ _ | refine bD_ ?_ | refine bA_ ?_ _)); exact BK420.out))⟩; have n3_ : Aside0 (Below w.heap.size w w16) := ⟨(by rw [hw]; exact (by repeat (first | (with_reducible first | exact HB.out | apply lA_ | apply lN_ | apply lD_ | refine lS_ ?_ GE420.out) | exact HB.out)))⟩; clear hw; clear HO_3; clear HO_4; clear BK420; clear HB; have HO_3 := n0_; have HO_4 := n1_; have BK420 := n2_; have HB := n3_; clear n0_ n1_ n2_ n3_; have hcz17_0 : w16.cell? ⟨gb420, 0, none⟩ = some (.int .i64 ((rd_T46 l0 x5_1).f0)) := (blk_cell BK420.out 0).trans rfl; have hcz17_1 : w16.cell? ⟨gb420, 1, none⟩ = some (.int .i64 ((rd_T46 l0 x5_1).f1)) := (blk_cell BK420.out 1).trans rfl; have hcz17_2 : w16.cell? ⟨gb420, 2, none⟩ = some (.int .i64 ((rd_T46 l0 x5_1).f2)) := (blk_cell BK420.out 2).trans rfl; have hcz17_3 : w16.cell? ⟨gb420, 3, none⟩ = some (.int .i64 ((rd_T46 l0 x5_1).f3)) := (blk_cell BK420.out 3).trans rfl; have hcz17_4 : w16.cell? ⟨gb420, 4, none⟩ = some (.int .i64 ((rd_T46 l0 x5_1).f4)) := (blk_cell BK420.out 4).trans rfl; have hcz17_5 : w16.cell? ⟨gb420, 5, none⟩ = some (.int .i64 ((rd_T46 l0 x5_1).f5)) := (blk_cell BK420.out 5).trans rfl; have hcz17_6 : w16.cell? ⟨gb420, 6, none⟩ = some (.int .i64 ((rd_T46 l0 x5_1).f6)) := (blk_cell BK420.out 6).trans rfl; have hcz17_7 : w16.cell? ⟨gb420, 7, none⟩ = some (.bool ((rd_T46 l0 x5_1).f7)) := (blk_cell BK420.out 7).trans rfl; have hcz17_8 : w16.cell? ⟨gb420, 8, none⟩ = some (.bool ((rd_T46 l0 x5_1).f8)) := (blk_cell BK420.out 8).trans rfl; have hfz17_0 := blk_frozen BK420.out 0; have hfz17_1 := blk_frozen BK420.out 1; have hfz17_2 := blk_frozen BK420.out 2; have hfz17_3 := blk_frozen BK420.out 3; have hfz17_4 := blk_frozen BK420.out 4; have hfz17_5 := blk_frozen BK420.out 5; have hfz17_6 := blk_frozen BK420.out 6; have hfz17_7 := blk_frozen BK420.out 7; have hfz17_8 := blk_frozen BK420.out 8; obtain ⟨Ao18, co18, eo18⟩ := Kd.V_slice HO_3.out; subst eo18) | ((with_reducible refine gate_callee (f := 30) rfl ?_); refine goesL_ (some 31) rfl rfl Try.func30 (by kernel_rfl) rfl #[.slice Ao18 x3_1.length co18, .agg #[.int .i64 ((rd_T46 l0 x5_1).f0), .int .i64 ((rd_T46 l0 x5_1).f1), .int .i64 ((rd_T46 l0 x5_1).f2), .int .i64 ((rd_T46 l0 x5_1).f3), .int .i64 ((rd_T46 l0 x5_1).f4), .int .i64 ((rd_T46 l0 x5_1).f5), .int .i64 ((rd_T46 l0 x5_1).f6), .bool ((rd_T46 l0 x5_1).f7), .bool ((rd_T46 l0 x5_1).f8)]] rfl (by (try simp only [List.map_toArray, List.map_cons, List.map_nil]); first | done | rfl | (simp only [List.length_drop, List.length_take]; rfl)) ?_; (with_reducible refine (skiarealaw51_do.calls (fun k_ => (some k_ ≠ (u4 : Value).ownBlock ∧ k_ ≠ gb420)) _ _ x3_1 ((rd_T46 l0 x5_1).f0) ((rd_T46 l0 x5_1).f1) ((rd_T46 l0 x5_1).f2) ((rd_T46 l0 x5_1).f3) ((rd_T46 l0 x5_1).f4) ((rd_T46 l0 x5_1).f5) ((rd_T46 l0 x5_1).f6) ((rd_T46 l0 x5_1).f7) ((rd_T46 l0 x5_1).f8) t421 true _ ?side1 A9.out).mono ?_); (case side1 => exact HO_3.out); rintro e w19 ⟨v422, rfl, ho0, hb⟩; refine ⟨_, rfl, ?_⟩; have n0_ := Aside0.mk (Kd.V_below (by (with_reducible repeat (first | apply Kd.V_alloc | apply Kd.V_drewN | apply Kd.V_drew)); exact HO_3.out) hb); have n1_ := Aside0.mk (Kd.R_below (by (with_reducible repeat (first | apply Kd.rA_ | apply Kd.rN_ | apply Kd.rD_)); exact HO_4.out) hb); have n2_ := Aside0.mk (Kd.V_lower (Kd.V_mono (ok' := fun k_ => some k_ ≠ (u4 : Value).ownBlock ∧ k_ ≠ gb420) ho0 (fun k_ hk_ => ⟨Or.elim hk_ (fun hs_ => hs_.1) (fun hn_ => (Kd.fresh' (Kd.R_lt (by (with_reducible repeat (first | apply Kd.rA_ | apply Kd.rN_ | apply Kd.rD_)); exact HO_4.out)) k_ hn_)), Or.elim hk_ (fun hs_ => hs_.2) (fun hn_ => (Kd.freshB (g := gb420) (o := .cells #[.int .i64 ((rd_T46 l0 x5_1).f0), .int .i64 ((rd_T46 l0 x5_1).f1), .int .i64 ((rd_T46 l0 x5_1).f2), .int .i64 ((rd_T46 l0 x5_1).f3), .int .i64 ((rd_T46 l0 x5_1).f4), .int .i64 ((rd_T46 l0 x5_1).f5), .int .i64 ((rd_T46 l0 x5_1).f6), .bool ((rd_T46 l0 x5_1).f7), .bool ((rd_T46 l0 x5_1).f8)] 46 (0, 0)) (by (with_reducible repeat (first | refine bN_ ?_ _ | refine bD_ ?_ | refine bA_ ?_ _)); exact BK420.out) k_ hn_))⟩)) (below_size (by repeat (first | (with_reducible first | exact HB.out | apply lA_ | apply lN_ | apply lD_ | refine lS_ ?_ GE420.out) | exact HB.out)))); have n3_ := Aside0.mk (blk_below (g := gb420) (o := .cells #[.int .i64 ((rd_T46 l0 x5_1).f0), .int .i64 ((rd_T46 l0 x5_1).f1), .int .i64 ((rd_T46 l0 x5_1).f2), .int .i64 ((rd_T46 l0 x5_1).f3), .int .i64 ((rd_T46 l0 x5_1).f4), .int .i64 ((rd_T46 l0 x5_1).f5), .int .i64 ((rd_T46 l0 x5_1).f6), .bool ((rd_T46 l0 x5_1).f7), .bool ((rd_T46 l0 x5_1).f8)] 46 (0, 0)) (by (with_reducible repeat (first | refine bN_ ?_ _ | refine bD_ ?_ | refine bA_ ?_ _)); exact BK420.out) hb); have n4_ := Aside0.mk (below_step (by repeat (first | (with_reducible first | exact HB.out | apply lA_ | apply lN_ | apply lD_ | refine lS_ ?_ GE420.out) | exact HB.out)) hb); clear HO_3; clear HO_4; clear BK420; clear HB; have HO_3 := n0_; have HO_4 := n1_; have HO423 := n2_; have BK420 := n3_; have HB := n4_; clear n0_ n1_ n2_ n3_ n4_; (try clear hb); (try clear hb2); (try clear hk); (try clear hi); (try clear ho0); have hcz20_0 : w19.cell? ⟨gb420, 0, none⟩ = some (.int .i64 ((rd_T46 l0 x5_1).f0)) := (blk_cell BK420.out 0).trans rfl; have hcz20_1 : w19.cell? ⟨gb420, 1, none⟩ = some (.int .i64 ((rd_T46 l0 x5_1).f1)) := (blk_cell BK420.out 1).trans rfl; have hcz20_2 : w19.cell? ⟨gb420, 2, none⟩ = some (.int .i64 ((rd_T46 l0 x5_1).f2)) := (blk_cell BK420.out 2).trans rfl; have hcz20_3 : w19.cell? ⟨gb420, 3, none⟩ = some (.int .i64 ((rd_T46 l0 x5_1).f3)) := (blk_cell BK420.out 3).trans rfl; have hcz20_4 : w19.cell? ⟨gb420, 4, none⟩ = some (.int .i64 ((rd_T46 l0 x5_1).f4)) := (blk_cell BK420.out 4).trans rfl; have hcz20_5 : w19.cell? ⟨gb420, 5, none⟩ = some (.int .i64 ((rd_T46 l0 x5_1).f5)) := (blk_cell BK420.out 5).trans rfl; have hcz20_6 : w19.cell? ⟨gb420, 6, none⟩ = some (.int .i64 ((rd_T46 l0 x5_1).f6)) := (blk_cell BK420.out 6).trans rfl; have hcz20_7 : w19.cell? ⟨gb420, 7, none⟩ = some (.bool ((rd_T46 l0 x5_1).f7)) := (blk_cell BK420.out 7).trans rfl; have hcz20_8 : w19.cell? ⟨gb420, 8, none⟩ = some (.bool ((rd_T46 l0 x5_1).f8)) := (blk_cell BK420.out 8).trans rfl; have hfz20_0 := blk_frozen BK420.out 0; have hfz20_1 := blk_frozen BK420.out 1; have hfz20_2 := blk_frozen BK420.out 2; have hfz20_3 := blk_frozen BK420.out 3; have hfz20_4 := blk_frozen BK420.out 4; have hfz20_5 := blk_frozen BK420.out 5; have hfz20_6 := blk_frozen BK420.out 6; have hfz20_7 := blk_frozen BK420.out 7; have hfz20_8 := blk_frozen BK420.out 8) | ((with_reducible refine gate_callee (f := 31) rfl ?_); refine goesL_ (some 40) rfl rfl Try.func31 (by kernel_rfl) rfl #[.slice Ao18 x3_1.length co18, .int .i64 ((rd_T46 l0 x5_1).f1)] rfl (by (try simp only [List.map_toArray, List.map_cons, List.map_nil]); first | done | rfl | (simp only [List.length_drop, List.length_take]; rfl)) ?_; (with_reducible refine (skiarealaw51_find.calls k1 _ _ x3_1 ((rd_T46 l0 x5_1).f1) t425 t426 t427 t428 t429 t430 t431 t432 _ ?side1 ?side2 A11.out).mono ?_); (case side1 => repeat (first | exact (Kd.V_reads' HO_3.out).2.2 | (with_reducible refine Kd.cA_ ?_ _) | (with_reducible refine Kd.cN_ ?_ _) | (with_reducible refine Kd.cD_ ?_))); (case side2 => exact (Kd.V_reads' HO_3.out).2.1); rintro e w21 ⟨rfl, hb⟩; refine ⟨_, rfl, ?_⟩; have n0_ := Aside0.mk (Kd.V_below (by (with_reducible repeat (first | apply Kd.V_alloc | apply Kd.V_drewN | apply Kd.V_drew)); exact HO_3.out) hb); have n1_ := Aside0.mk (Kd.R_below (by (with_reducible repeat (first | apply Kd.rA_ | apply Kd.rN_ | apply Kd.rD_)); exact HO_4.out) hb); have n2_ := Aside0.mk (Kd.V_below (by (with_reducible repeat (first | apply Kd.V_alloc | apply Kd.V_drewN | apply Kd.V_drew)); exact HO423.out) hb); have n3_ := Aside0.mk (blk_below (g := gb420) (o := .cells #[.int .i64 ((rd_T46 l0 x5_1).f0), .int .i64 ((rd_T46 l0 x5_1).f1), .int .i64 ((rd_T46 l0 x5_1).f2), .int .i64 ((rd_T46 l0 x5_1).f3), .int .i64 ((rd_T46 l0 x5_1).f4), .int .i64 ((rd_T46 l0 x5_1).f5), .int .i64 ((rd_T46 l0 x5_1).f6), .bool ((rd_T46 l0 x5_1).f7), .bool ((rd_T46 l0 x5_1).f8)] 46 (0, 0)) (by (with_reducible repeat (first | refine bN_ ?_ _ | refine bD_ ?_ | refine bA_ ?_ _)); exact BK420.out) hb); have n4_ := Aside0.mk (below_step (by repeat (first | (with_reducible first | exact HB.out | apply lA_ | apply lN_ | apply lD_ | refine lS_ ?_ GE420.out) | exact HB.out)) hb); clear HO_3; clear HO_4; clear HO423; clear BK420; clear HB; have HO_3 := n0_; have HO_4 := n1_; have HO423 := n2_; have BK420 := n3_; have HB := n4_; clear n0_ n1_ n2_ n3_ n4_; (try clear hb); (try clear hb2); (try clear hk); (try clear hi)) | ((with_reducible refine gate_dst (N := 9) rfl ?_); refine box_event ?hg (N := 9) ?hd (cs := #[.int .i64 0, .int .i64 0, .int .i64 0, .int .i64 0, .int .i64 0, .int .i64 0, .int .i64 0]) (t := 30) ?hr ?_; (case hd => rfl); (case hg => rfl); (case hr => first | (go_simp; done) | (go_simp; rfl)); intro gb433 hg w22 hbox hb; have n0_ := Aside0.mk (Kd.V_below (Kd.V_elderB (by (with_reducible repeat (first | apply Kd.V_alloc | apply Kd.V_drewN | apply Kd.V_drew)); exact HO_3.out) gb433 (Nat.le_of_eq hg.symm)) hb); have n1_ := Aside0.mk (Kd.R_below (by (with_reducible repeat (first | apply Kd.rA_ | apply Kd.rN_ | apply Kd.rD_)); exact HO_4.out) hb); have n2_ := Aside0.mk (Kd.V_below (Kd.V_elderB (by (with_reducible repeat (first | apply Kd.V_alloc | apply Kd.V_drewN | apply Kd.V_drew)); exact HO423.out) gb433 (Nat.le_of_eq hg.symm)) hb); have n3_ := Aside0.mk (blk_below (g := gb420) (o := .cells #[.int .i64 ((rd_T46 l0 x5_1).f0), .int .i64 ((rd_T46 l0 x5_1).f1), .int .i64 ((rd_T46 l0 x5_1).f2), .int .i64 ((rd_T46 l0 x5_1).f3), .int .i64 ((rd_T46 l0 x5_1).f4), .int .i64 ((rd_T46 l0 x5_1).f5), .int .i64 ((rd_T46 l0 x5_1).f6), .bool ((rd_T46 l0 x5_1).f7), .bool ((rd_T46 l0 x5_1).f8)] 46 (0, 0)) (by (with_reducible repeat (first | refine bN_ ?_ _ | refine bD_ ?_ | refine bA_ ?_ _)); exact BK420.out) hb); have n4_ := Aside0.mk (below_step (by repeat (first | (with_reducible first | exact HB.out | apply lA_ | apply lN_ | apply lD_ | refine lS_ ?_ GE420.out) | exact HB.out)) hb); have n5_ := Aside0.mk (hbox); have n6_ := Aside0.mk ((by rw [hg]; exact (below_size (by repeat (first | (with_reducible first | exact HB.out | apply lA_ | apply lN_ | apply lD_ | refine lS_ ?_ GE420.out) | exact HB.out))) : w.heap.size ≤ gb433)); have n7_ := Aside0.mk ((by rw [hg]; exact (below_size (by repeat (first | (with_reducible first | exact HB.out | apply lA_ | apply lN_ | apply lD_ | refine lS_ ?_ GE420.out) | exact HB.out))) : w.heap.size ≤ gb433)); have n8_ := Aside0.mk ((by rw [hg]; exact Nat.ne_of_lt (blk_lt (g := gb420) (o := .cells #[.int .i64 ((rd_T46 l0 x5_1).f0), .int .i64 ((rd_T46 l0 x5_1).f1), .int .i64 ((rd_T46 l0 x5_1).f2), .int .i64 ((rd_T46 l0 x5_1).f3), .int .i64 ((rd_T46 l0 x5_1).f4), .int .i64 ((rd_T46 l0 x5_1).f5), .int .i64 ((rd_T46 l0 x5_1).f6), .bool ((rd_T46 l0 x5_1).f7), .bool ((rd_T46 l0 x5_1).f8)] 46 (0, 0)) (by (with_reducible repeat (first | refine bN_ ?_ _ | refine bD_ ?_ | refine bA_ ?_ _)); exact BK420.out)) : gb420 ≠ gb433)); have n9_ := Aside0.mk ((by rw [hg]; exact Nat.ne_of_gt (blk_lt (g := gb420) (o := .cells #[.int .i64 ((rd_T46 l0 x5_1).f0), .int .i64 ((rd_T46 l0 x5_1).f1), .int .i64 ((rd_T46 l0 x5_1).f2), .int .i64 ((rd_T46 l0 x5_1).f3), .int .i64 ((rd_T46 l0 x5_1).f4), .int .i64 ((rd_T46 l0 x5_1).f5), .int .i64 ((rd_T46 l0 x5_1).f6), .bool ((rd_T46 l0 x5_1).f7), .bool ((rd_T46 l0 x5_1).f8)] 46 (0, 0)) (by (with_reducible repeat (first | refine bN_ ?_ _ | refine bD_ ?_ | refine bA_ ?_ _)); exact BK420.out)) : gb433 ≠ gb420)); clear HO_3; clear HO_4; clear HO423; clear BK420; clear HB; have HO_3 := n0_; have HO_4 := n1_; have HO423 := n2_; have BK420 := n3_; have HB := n4_; have BK433 := n5_; have GW433 := n6_; have GE433 := n7_; have NB420_433 := n8_; have NB433_420 := n9_; clear n0_ n1_ n2_ n3_ n4_ n5_ n6_ n7_ n8_ n9_; clear hb hbox hg; have hnb23 := NB433_420.out; have hnc23 := NB420_433.out; have hcz24_0 : w22.cell? ⟨gb433, 0, none⟩ = some (.int .i64 0) := (blk_cell BK433.out 0).trans rfl; have hcz24_1 : w22.cell? ⟨gb433, 1, none⟩ = some (.int .i64 0) := (blk_cell BK433.out 1).trans rfl; have hcz24_2 : w22.cell? ⟨gb433, 2, none⟩ = some (.int .i64 0) := (blk_cell BK433.out 2).trans rfl; have hcz24_3 : w22.cell? ⟨gb433, 3, none⟩ = some (.int .i64 0) := (blk_cell BK433.out 3).trans rfl; have hcz24_4 : w22.cell? ⟨gb433, 4, none⟩ = some (.int .i64 0) := (blk_cell BK433.out 4).trans rfl; have hcz24_5 : w22.cell? ⟨gb433, 5, none⟩ = some (.int .i64 0) := (blk_cell BK433.out 5).trans rfl; have hcz24_6 : w22.cell? ⟨gb433, 6, none⟩ = some (.int .i64 0) := (blk_cell BK433.out 6).trans rfl; have hfz24_0 := blk_frozen BK433.out 0; have hfz24_1 := blk_frozen BK433.out 1; have hfz24_2 := blk_frozen BK433.out 2; have hfz24_3 := blk_frozen BK433.out 3; have hfz24_4 := blk_frozen BK433.out 4; have hfz24_5 := blk_frozen BK433.out 5; have hfz24_6 := blk_frozen BK433.out 6; have hcz25_0 : w22.cell? ⟨gb420, 0, none⟩ = some (.int .i64 ((rd_T46 l0 x5_1).f0)) := (blk_cell BK420.out 0).trans rfl; have hcz25_1 : w22.cell? ⟨gb420, 1, none⟩ = some (.int .i64 ((rd_T46 l0 x5_1).f1)) := (blk_cell BK420.out 1).trans rfl; have hcz25_2 : w22.cell? ⟨gb420, 2, none⟩ = some (.int .i64 ((rd_T46 l0 x5_1).f2)) := (blk_cell BK420.out 2).trans rfl; have hcz25_3 : w22.cell? ⟨gb420, 3, none⟩ = some (.int .i64 ((rd_T46 l0 x5_1).f3)) := (blk_cell BK420.out 3).trans rfl; have hcz25_4 : w22.cell? ⟨gb420, 4, none⟩ = some (.int .i64 ((rd_T46 l0 x5_1).f4)) := (blk_cell BK420.out 4).trans rfl; have hcz25_5 : w22.cell? ⟨gb420, 5, none⟩ = some (.int .i64 ((rd_T46 l0 x5_1).f5)) := (blk_cell BK420.out 5).trans rfl; have hcz25_6 : w22.cell? ⟨gb420, 6, none⟩ = some (.int .i64 ((rd_T46 l0 x5_1).f6)) := (blk_cell BK420.out 6).trans rfl; have hcz25_7 : w22.cell? ⟨gb420, 7, none⟩ = some (.bool ((rd_T46 l0 x5_1).f7)) := (blk_cell BK420.out 7).trans rfl; have hcz25_8 : w22.cell? ⟨gb420, 8, none⟩ = some (.bool ((rd_T46 l0 x5_1).f8)) := (blk_cell BK420.out 8).trans rfl; have hfz25_0 := blk_frozen BK420.out 0; have hfz25_1 := blk_frozen BK420.out 1; have hfz25_2 := blk_frozen BK420.out 2; have hfz25_3 := blk_frozen BK420.out 3; have hfz25_4 := blk_frozen BK420.out 4; have hfz25_5 := blk_frozen BK420.out 5; have hfz25_6 := blk_frozen BK420.out 6; have hfz25_7 := blk_frozen BK420.out 7; have hfz25_8 := blk_frozen BK420.out 8; obtain ⟨Ao26, co26, eo26⟩ := Kd.V_slice HO423.out; subst eo26) | ((with_reducible refine gate_callee (f := 31) rfl ?_); refine goesL_ (some 47) rfl rfl Try.func31 (by kernel_rfl) rfl #[.slice Ao26 t421.length co26, .int .i64 ((rd_T46 l0 x5_1).f1)] rfl (by (try simp only [List.map_toArray, List.map_cons, List.map_nil]); first | done | rfl | (simp only [List.length_drop, List.length_take]; rfl)) ?_; (with_reducible refine (skiarealaw51_find.calls k1 _ _ t421 ((rd_T46 l0 x5_1).f1) t434 t435 t436 t437 t438 t439 t440 t441 _ ?side1 ?side2 A12.out).mono ?_); (case side1 => refine (Kd.V_reads' (e := 30) (base := w.heap.size) (ok := fun k_ => ((some k_ ≠ (u4 : Value).ownBlock ∧ k_ ≠ gb420) ∧ k_ ≠ gb433)) (n := t421.length) (c := co26) ?_).2.2; exact (by (with_reducible repeat (first | apply Kd.V_alloc | apply Kd.V_drewN | apply Kd.V_drew)); exact (Kd.V_mono (Kd.V_far (p := ⟨gb433, 6, none⟩) (Kd.V_far (p := ⟨gb433, 5, none⟩) (Kd.V_far (p := ⟨gb433, 4, none⟩) (Kd.V_far (p := ⟨gb433, 3, none⟩) (Kd.V_far (p := ⟨gb433, 2, none⟩) (Kd.V_far (p := ⟨gb433, 1, none⟩) (Kd.V_far (p := ⟨gb433, 0, none⟩) (Kd.V_mono HO423.out (fun k_ hk => (⟨hk, hk.2⟩ : _ ∧ k_ ≠ gb433))) (fun _ hk => hk.2) (.int .i64 t425)) (fun _ hk => hk.2) (.int .i64 t426)) (fun _ hk => hk.2) (.int .i64 t427)) (fun _ hk => hk.2) (.int .i64 t428)) (fun _ hk => hk.2) (.int .i64 t429)) (fun _ hk => hk.2) (.int .i64 t430)) (fun _ hk => hk.2) (.int .i64 t431)) (fun _ h_ => h_.1)))); (case side2 => exact (Kd.V_reads' HO423.out).2.1); rintro e w27 ⟨rfl, hb⟩; refine ⟨_, rfl, ?_⟩; have n0_ := Aside0.mk (Kd.V_below (by (with_reducible repeat (first | apply Kd.V_alloc | apply Kd.V_drewN | apply Kd.V_drew)); exact (Kd.V_mono (Kd.V_far (p := ⟨gb433, 6, none⟩) (Kd.V_far (p := ⟨gb433, 5, none⟩) (Kd.V_far (p := ⟨gb433, 4, none⟩) (Kd.V_far (p := ⟨gb433, 3, none⟩) (Kd.V_far (p := ⟨gb433, 2, none⟩) (Kd.V_far (p := ⟨gb433, 1, none⟩) (Kd.V_far (p := ⟨gb433, 0, none⟩) (Kd.V_mono HO_3.out (fun k_ hk => (⟨hk, hk.2⟩ : _ ∧ k_ ≠ gb433))) (fun _ hk => hk.2) (.int .i64 t425)) (fun _ hk => hk.2) (.int .i64 t426)) (fun _ hk => hk.2) (.int .i64 t427)) (fun _ hk => hk.2) (.int .i64 t428)) (fun _ hk => hk.2) (.int .i64 t429)) (fun _ hk => hk.2) (.int .i64 t430)) (fun _ hk => hk.2) (.int .i64 t431)) (fun _ h_ => h_.1))) hb); have n1_ := Aside0.mk (Kd.R_below (by (with_reducible repeat (first | apply Kd.rA_ | apply Kd.rN_ | apply Kd.rD_)); exact (Kd.R_mono (Kd.R_far (p := ⟨gb433, 6, none⟩) (Kd.R_far (p := ⟨gb433, 5, none⟩) (Kd.R_far (p := ⟨gb433, 4, none⟩) (Kd.R_far (p := ⟨gb433, 3, none⟩) (Kd.R_far (p := ⟨gb433, 2, none⟩) (Kd.R_far (p := ⟨gb433, 1, none⟩) (Kd.R_far (p := ⟨gb433, 0, none⟩) (Kd.R_types HO_4.out BK433.out (by decide)) (fun _ hk => hk.2) (.int .i64 t425)) (fun _ hk => hk.2) (.int .i64 t426)) (fun _ hk => hk.2) (.int .i64 t427)) (fun _ hk => hk.2) (.int .i64 t428)) (fun _ hk => hk.2) (.int .i64 t429)) (fun _ hk => hk.2) (.int .i64 t430)) (fun _ hk => hk.2) (.int .i64 t431)) (fun _ h_ => h_.1))) hb); have n2_ := Aside0.mk (Kd.V_below (by (with_reducible repeat (first | apply Kd.V_alloc | apply Kd.V_drewN | apply Kd.V_drew)); exact (Kd.V_mono (Kd.V_far (p := ⟨gb433, 6, none⟩) (Kd.V_far (p := ⟨gb433, 5, none⟩) (Kd.V_far (p := ⟨gb433, 4, none⟩) (Kd.V_far (p := ⟨gb433, 3, none⟩) (Kd.V_far (p := ⟨gb433, 2, none⟩) (Kd.V_far (p := ⟨gb433, 1, none⟩) (Kd.V_far (p := ⟨gb433, 0, none⟩) (Kd.V_mono HO423.out (fun k_ hk => (⟨hk, hk.2⟩ : _ ∧ k_ ≠ gb433))) (fun _ hk => hk.2) (.int .i64 t425)) (fun _ hk => hk.2) (.int .i64 t426)) (fun _ hk => hk.2) (.int .i64 t427)) (fun _ hk => hk.2) (.int .i64 t428)) (fun _ hk => hk.2) (.int .i64 t429)) (fun _ hk => hk.2) (.int .i64 t430)) (fun _ hk => hk.2) (.int .i64 t431)) (fun _ h_ => h_.1))) hb); have n3_ := Aside0.mk (blk_below (g := gb420) (o := .cells #[.int .i64 ((rd_T46 l0 x5_1).f0), .int .i64 ((rd_T46 l0 x5_1).f1), .int .i64 ((rd_T46 l0 x5_1).f2), .int .i64 ((rd_T46 l0 x5_1).f3), .int .i64 ((rd_T46 l0 x5_1).f4), .int .i64 ((rd_T46 l0 x5_1).f5), .int .i64 ((rd_T46 l0 x5_1).f6), .bool ((rd_T46 l0 x5_1).f7), .bool ((rd_T46 l0 x5_1).f8)] 46 (0, 0)) (by (with_reducible repeat (first | refine bN_ ?_ _ | refine bD_ ?_ | refine bA_ ?_ _)); refine blk_far ?_ NB420_433.out _; (with_reducible repeat (first | refine bN_ ?_ _ | refine bD_ ?_ | refine bA_ ?_ _)); refine blk_far ?_ NB420_433.out _; (with_reducible repeat (first | refine bN_ ?_ _ | refine bD_ ?_ | refine bA_ ?_ _)); refine blk_far ?_ NB420_433.out _; (with_reducible repeat (first | refine bN_ ?_ _ | refine bD_ ?_ | refine bA_ ?_ _)); refine blk_far ?_ NB420_433.out _; (with_reducible repeat (first | refine bN_ ?_ _ | refine bD_ ?_ | refine bA_ ?_ _)); refine blk_far ?_ NB420_433.out _; (with_reducible repeat (first | refine bN_ ?_ _ | refine bD_ ?_ | refine bA_ ?_ _)); refine blk_far ?_ NB420_433.out _; (with_reducible repeat (first | refine bN_ ?_ _ | refine bD_ ?_ | refine bA_ ?_ _)); refine blk_far ?_ NB420_433.out _; (with_reducible repeat (first | refine bN_ ?_ _ | refine bD_ ?_ | refine bA_ ?_ _)); exact BK420.out) hb); have n4_ := Aside0.mk (blk_below (g := gb433) (o := .cells #[.int .i64 t425, .int .i64 t426, .int .i64 t427, .int .i64 t428, .int .i64 t429, .int .i64 t430, .int .i64 t431] 30 (0, 0)) (by (with_reducible repeat (first | refine bN_ ?_ _ | refine bD_ ?_ | refine bA_ ?_ _)); refine blk_put (cs := #[.int .i64 t425, .int .i64 t426, .int .i64 t427, .int .i64 t428, .int .i64 t429, .int .i64 t430, .int .i64 0]) ?_ 6 _ rfl; (with_reducible repeat (first | refine bN_ ?_ _ | refine bD_ ?_ | refine bA_ ?_ _)); refine blk_put (cs := #[.int .i64 t425, .int .i64 t426, .int .i64 t427, .int .i64 t428, .int .i64 t429, .int .i64 0, .int .i64 0]) ?_ 5 _ rfl; (with_reducible repeat (first | refine bN_ ?_ _ | refine bD_ ?_ | refine bA_ ?_ _)); refine blk_put (cs := #[.int .i64 t425, .int .i64 t426, .int .i64 t427, .int .i64 t428, .int .i64 0, .int .i64 0, .int .i64 0]) ?_ 4 _ rfl; (with_reducible repeat (first | refine bN_ ?_ _ | refine bD_ ?_ | refine bA_ ?_ _)); refine blk_put (cs := #[.int .i64 t425, .int .i64 t426, .int .i64 t427, .int .i64 0, .int .i64 0, .int .i64 0, .int .i64 0]) ?_ 3 _ rfl; (with_reducible repeat (first | refine bN_ ?_ _ | refine bD_ ?_ | refine bA_ ?_ _)); refine blk_put (cs := #[.int .i64 t425, .int .i64 t426, .int .i64 0, .int .i64 0, .int .i64 0, .int .i64 0, .int .i64 0]) ?_ 2 _ rfl; (with_reducible repeat (first | refine bN_ ?_ _ | refine bD_ ?_ | refine bA_ ?_ _)); refine blk_put (cs := #[.int .i64 t425, .int .i64 0, .int .i64 0, .int .i64 0, .int .i64 0, .int .i64 0, .int .i64 0]) ?_ 1 _ rfl; (with_reducible repeat (first | refine bN_ ?_ _ | refine bD_ ?_ | refine bA_ ?_ _)); refine blk_put (cs := #[.int .i64 0, .int .i64 0, .int .i64 0, .int .i64 0, .int .i64 0, .int .i64 0, .int .i64 0]) ?_ 0 _ rfl; (with_reducible repeat (first | refine bN_ ?_ _ | refine bD_ ?_ | refine bA_ ?_ _)); exact BK433.out) hb); have n5_ := Aside0.mk (below_step (by repeat (first | (with_reducible first | exact HB.out | apply lA_ | apply lN_ | apply lD_ | refine lS_ ?_ GE420.out | refine lS_ ?_ GE433.out) | exact HB.out)) hb); clear HO_3; clear HO_4; clear HO423; clear BK420; clear BK433; clear HB; have HO_3 := n0_; have HO_4 := n1_; have HO423 := n2_; have BK420 := n3_; have BK433 := n4_; have HB := n5_; clear n0_ n1_ n2_ n3_ n4_ n5_; (try clear hb); (try clear hb2); (try clear hk); (try clear hi)) | ((with_reducible refine gate_dst (N := 11) rfl ?_); refine box_event ?hg (N := 11) ?hd (cs := #[.int .i64 0, .int .i64 0, .int .i64 0, .int .i64 0, .int .i64 0, .int .i64 0, .int .i64 0]) (t := 30) ?hr ?_; (case hd => rfl); (case hg => rfl); (case hr => first | (go_simp; done) | (go_simp; rfl)); intro gb442 hg w28 hbox hb; have n0_ := Aside0.mk (Kd.V_below (Kd.V_elderB (by (with_reducible repeat (first | apply Kd.V_alloc | apply Kd.V_drewN | apply Kd.V_drew)); exact HO_3.out) gb442 (Nat.le_of_eq hg.symm)) hb); have n1_ := Aside0.mk (Kd.R_below (by (with_reducible repeat (first | apply Kd.rA_ | apply Kd.rN_ | apply Kd.rD_)); exact HO_4.out) hb); have n2_ := Aside0.mk (Kd.V_below (Kd.V_elderB (by (with_reducible repeat (first | apply Kd.V_alloc | apply Kd.V_drewN | apply Kd.V_drew)); exact HO423.out) gb442 (Nat.le_of_eq hg.symm)) hb); have n3_ := Aside0.mk (blk_below (g := gb420) (o := .cells #[.int .i64 ((rd_T46 l0 x5_1).f0), .int .i64 ((rd_T46 l0 x5_1).f1), .int .i64 ((rd_T46 l0 x5_1).f2), .int .i64 ((rd_T46 l0 x5_1).f3), .int .i64 ((rd_T46 l0 x5_1).f4), .int .i64 ((rd_T46 l0 x5_1).f5), .int .i64 ((rd_T46 l0 x5_1).f6), .bool ((rd_T46 l0 x5_1).f7), .bool ((rd_T46 l0 x5_1).f8)] 46 (0, 0)) (by (with_reducible repeat (first | refine bN_ ?_ _ | refine bD_ ?_ | refine bA_ ?_ _)); exact BK420.out) hb); have n4_ := Aside0.mk (blk_below (g := gb433) (o := .cells #[.int .i64 t425, .int .i64 t426, .int .i64 t427, .int .i64 t428, .int .i64 t429, .int .i64 t430, .int .i64 t431] 30 (0, 0)) (by (with_reducible repeat (first | refine bN_ ?_ _ | refine bD_ ?_ | refine bA_ ?_ _)); exact BK433.out) hb); have n5_ := Aside0.mk (below_step (by repeat (first | (with_reducible first | exact HB.out | apply lA_ | apply lN_ | apply lD_ | refine lS_ ?_ GE420.out | refine lS_ ?_ GE433.out) | exact HB.out)) hb); have n6_ := Aside0.mk (hbox); have n7_ := Aside0.mk ((by rw [hg]; exact (below_size (by repeat (first | (with_reducible first | exact HB.out | apply lA_ | apply lN_ | apply lD_ | refine lS_ ?_ GE420.out | refine lS_ ?_ GE433.out) | exact HB.out))) : w.heap.size ≤ gb442)); have n8_ := Aside0.mk ((by rw [hg]; exact (below_size (by repeat (first | (with_reducible first | exact HB.out | apply lA_ | apply lN_ | apply lD_ | refine lS_ ?_ GE420.out | refine lS_ ?_ GE433.out) | exact HB.out))) : w.heap.size ≤ gb442)); have n9_ := Aside0.mk ((by rw [hg]; exact Nat.ne_of_lt (blk_lt (g := gb420) (o := .cells #[.int .i64 ((rd_T46 l0 x5_1).f0), .int .i64 ((rd_T46 l0 x5_1).f1), .int .i64 ((rd_T46 l0 x5_1).f2), .int .i64 ((rd_T46 l0 x5_1).f3), .int .i64 ((rd_T46 l0 x5_1).f4), .int .i64 ((rd_T46 l0 x5_1).f5), .int .i64 ((rd_T46 l0 x5_1).f6), .bool ((rd_T46 l0 x5_1).f7), .bool ((rd_T46 l0 x5_1).f8)] 46 (0, 0)) (by (with_reducible repeat (first | refine bN_ ?_ _ | refine bD_ ?_ | refine bA_ ?_ _)); exact BK420.out)) : gb420 ≠ gb442)); have n10_ := Aside0.mk ((by rw [hg]; exact Nat.ne_of_gt (blk_lt (g := gb420) (o := .cells #[.int .i64 ((rd_T46 l0 x5_1).f0), .int .i64 ((rd_T46 l0 x5_1).f1), .int .i64 ((rd_T46 l0 x5_1).f2), .int .i64 ((rd_T46 l0 x5_1).f3), .int .i64 ((rd_T46 l0 x5_1).f4), .int .i64 ((rd_T46 l0 x5_1).f5), .int .i64 ((rd_T46 l0 x5_1).f6), .bool ((rd_T46 l0 x5_1).f7), .bool ((rd_T46 l0 x5_1).f8)] 46 (0, 0)) (by (with_reducible repeat (first | refine bN_ ?_ _ | refine bD_ ?_ | refine bA_ ?_ _)); exact BK420.out)) : gb442 ≠ gb420)); have n11_ := Aside0.mk ((by rw [hg]; exact Nat.ne_of_lt (blk_lt (g := gb433) (o := .cells #[.int .i64 t425, .int .i64 t426, .int .i64 t427, .int .i64 t428, .int .i64 t429, .int .i64 t430, .int .i64 t431] 30 (0, 0)) (by (with_reducible repeat (first | refine bN_ ?_ _ | refine bD_ ?_ | refine bA_ ?_ _)); exact BK433.out)) : gb433 ≠ gb442)); have n12_ := Aside0.mk ((by rw [hg]; exact Nat.ne_of_gt (blk_lt (g := gb433) (o := .cells #[.int .i64 t425, .int .i64 t426, .int .i64 t427, .int .i64 t428, .int .i64 t429, .int .i64 t430, .int .i64 t431] 30 (0, 0)) (by (with_reducible repeat (first | refine bN_ ?_ _ | refine bD_ ?_ | refine bA_ ?_ _)); exact BK433.out)) : gb442 ≠ gb433)); clear HO_3; clear HO_4; clear HO423; clear BK420; clear BK433; clear HB; have HO_3 := n0_; have HO_4 := n1_; have HO423 := n2_; have BK420 := n3_; have BK433 := n4_; have HB := n5_; have BK442 := n6_; have GW442 := n7_; have GE442 := n8_; have NB420_442 := n9_; have NB442_420 := n10_; have NB433_442 := n11_; have NB442_433 := n12_; clear n0_ n1_ n2_ n3_ n4_ n5_ n6_ n7_ n8_ n9_ n10_ n11_ n12_; clear hb hbox hg; have hnb29 := NB442_420.out; have hnc29 := NB420_442.out; have hnb30 := NB442_433.out; have hnc30 := NB433_442.out; have hcz31_0 : w28.cell? ⟨gb442, 0, none⟩ = some (.int .i64 0) := (blk_cell BK442.out 0).trans rfl; have hcz31_1 : w28.cell? ⟨gb442, 1, none⟩ = some (.int .i64 0) := (blk_cell BK442.out 1).trans rfl; have hcz31_2 : w28.cell? ⟨gb442, 2, none⟩ = some (.int .i64 0) := (blk_cell BK442.out 2).trans rfl; have hcz31_3 : w28.cell? ⟨gb442, 3, none⟩ = some (.int .i64 0) := (blk_cell BK442.out 3).trans rfl; have hcz31_4 : w28.cell? ⟨gb442, 4, none⟩ = some (.int .i64 0) := (blk_cell BK442.out 4).trans rfl; have hcz31_5 : w28.cell? ⟨gb442, 5, none⟩ = some (.int .i64 0) := (blk_cell BK442.out 5).trans rfl; have hcz31_6 : w28.cell? ⟨gb442, 6, none⟩ = some (.int .i64 0) := (blk_cell BK442.out 6).trans rfl; have hfz31_0 := blk_frozen BK442.out 0; have hfz31_1 := blk_frozen BK442.out 1; have hfz31_2 := blk_frozen BK442.out 2; have hfz31_3 := blk_frozen BK442.out 3; have hfz31_4 := blk_frozen BK442.out 4; have hfz31_5 := blk_frozen BK442.out 5; have hfz31_6 := blk_frozen BK442.out 6))
        (try simp only [Act.put, List.setIfInBounds_toArray, List.set_cons_zero, List.set_cons_succ])
        go_cut [68] (fun v68 wc => ∃ (kq : Nat) (x68_12 : Bool), v68 = .bool x68_12 ∧ Aside0 (skiarealaw51_BlastCleared.j1 kq l0 x4_1 x5_1 t421 t432 x68_12 ((rd_T46 l0 x5_1).f0) ((rd_T46 l0 x5_1).f1) ((rd_T46 l0 x5_1).f2) ((rd_T46 l0 x5_1).f3) ((rd_T46 l0 x5_1).f4) ((rd_T46 l0 x5_1).f5) ((rd_T46 l0 x5_1).f6) ((rd_T46 l0 x5_1).f7) ((rd_T46 l0 x5_1).f8) t425 t426 t427 t428 t429 t430 t431 t434 t435 t436 t437 t438 t439 t440 = some r) ∧ Aside0 (kq ≤ k1) ∧ Aside0 (Kd.R k46 46 wc w.heap.size (fun k_ => k_ ≠ gb420) u4 x4_1) ∧ Aside0 (Kd.V k30 30 wc w.heap.size (fun k_ => some k_ ≠ (u4 : Value).ownBlock ∧ k_ ≠ gb420 ∧ k_ ≠ gb433 ∧ k_ ≠ gb442) (.slice Ao26 t421.length co26) t421) ∧ Aside0 (wc.heap[gb420]? = some (.cells #[.int .i64 ((rd_T46 l0 x5_1).f0), .int .i64 ((rd_T46 l0 x5_1).f1), .int .i64 ((rd_T46 l0 x5_1).f2), .int .i64 ((rd_T46 l0 x5_1).f3), .int .i64 ((rd_T46 l0 x5_1).f4), .int .i64 ((rd_T46 l0 x5_1).f5), .int .i64 ((rd_T46 l0 x5_1).f6), .bool ((rd_T46 l0 x5_1).f7), .bool ((rd_T46 l0 x5_1).f8)] 46 (0, 0))) ∧ Aside0 (wc.heap[gb433]? = some (.cells #[.int .i64 t425, .int .i64 t426, .int .i64 t427, .int .i64 t428, .int .i64 t429, .int .i64 t430, .int .i64 t431] 30 (0, 0))) ∧ Aside0 (wc.heap[gb442]? = some (.cells #[.int .i64 t434, .int .i64 t435, .int .i64 t436, .int .i64 t437, .int .i64 t438, .int .i64 t439, .int .i64 t440] 30 (0, 0))) ∧ Aside0 (Below w.heap.size w wc))
        case first =>
         have H := HC13.out; clear HC13; by_cases c32 : t441 = true
         ·
          subst c32; have H1 : (if t438 = ((rd_T46 l0 x5_1).f4) then (if t432 = true then (skiarealaw51_BlastCleared.j1 k1 l0 x4_1 x5_1 t421 t432 (decide (((rd_T46 l0 x5_1).f4) < t429)) ((rd_T46 l0 x5_1).f0) ((rd_T46 l0 x5_1).f1) ((rd_T46 l0 x5_1).f2) ((rd_T46 l0 x5_1).f3) ((rd_T46 l0 x5_1).f4) ((rd_T46 l0 x5_1).f5) ((rd_T46 l0 x5_1).f6) ((rd_T46 l0 x5_1).f7) ((rd_T46 l0 x5_1).f8) t425 t426 t427 t428 t429 t430 t431 t434 t435 t436 t437 t438 t439 t440) else (skiarealaw51_BlastCleared.j1 k1 l0 x4_1 x5_1 t421 t432 false ((rd_T46 l0 x5_1).f0) ((rd_T46 l0 x5_1).f1) ((rd_T46 l0 x5_1).f2) ((rd_T46 l0 x5_1).f3) ((rd_T46 l0 x5_1).f4) ((rd_T46 l0 x5_1).f5) ((rd_T46 l0 x5_1).f6) ((rd_T46 l0 x5_1).f7) ((rd_T46 l0 x5_1).f8) t425 t426 t427 t428 t429 t430 t431 t434 t435 t436 t437 t438 t439 t440)) else (none)) = some r := by rw [if_pos rfl] at H; exact H
          clear H; have H := H1; clear H1; by_cases c33 : t438 = ((rd_T46 l0 x5_1).f4)
          ·
           rw [if_pos c33] at H
           have c33b0 : (t438 == ((rd_T46 l0 x5_1).f4)) = true := beq_iff_eq.mpr c33; have c33b1 : (t438 != ((rd_T46 l0 x5_1).f4)) = false := bne_eq_false_iff_eq.mpr c33; clear c33; (first | rw [c33b0] | (simp only [i64_w, i32_w]; rw [c33b0]) | skip)
           by_cases c34 : t432 = true
           ·
            subst c34; have H1 : (skiarealaw51_BlastCleared.j1 k1 l0 x4_1 x5_1 t421 true (decide (((rd_T46 l0 x5_1).f4) < t429)) ((rd_T46 l0 x5_1).f0) ((rd_T46 l0 x5_1).f1) ((rd_T46 l0 x5_1).f2) ((rd_T46 l0 x5_1).f3) ((rd_T46 l0 x5_1).f4) ((rd_T46 l0 x5_1).f5) ((rd_T46 l0 x5_1).f6) ((rd_T46 l0 x5_1).f7) ((rd_T46 l0 x5_1).f8) t425 t426 t427 t428 t429 t430 t431 t434 t435 t436 t437 t438 t439 t440) = some r := by rw [if_pos rfl] at H; exact H
            clear H; have H := H1; clear H1; have H' := Aside0.mk H; clear H; have hnb35 := NB442_420.out; have hnc35 := NB420_442.out; have hnb36 := NB442_433.out; have hnc36 := NB433_442.out; have hcz37_0 : w28.cell? ⟨gb442, 0, none⟩ = some (.int .i64 0) := (blk_cell BK442.out 0).trans rfl; have hcz37_1 : w28.cell? ⟨gb442, 1, none⟩ = some (.int .i64 0) := (blk_cell BK442.out 1).trans rfl; have hcz37_2 : w28.cell? ⟨gb442, 2, none⟩ = some (.int .i64 0) := (blk_cell BK442.out 2).trans rfl; have hcz37_3 : w28.cell? ⟨gb442, 3, none⟩ = some (.int .i64 0) := (blk_cell BK442.out 3).trans rfl; have hcz37_4 : w28.cell? ⟨gb442, 4, none⟩ = some (.int .i64 0) := (blk_cell BK442.out 4).trans rfl; have hcz37_5 : w28.cell? ⟨gb442, 5, none⟩ = some (.int .i64 0) := (blk_cell BK442.out 5).trans rfl; have hcz37_6 : w28.cell? ⟨gb442, 6, none⟩ = some (.int .i64 0) := (blk_cell BK442.out 6).trans rfl; have hfz37_0 := blk_frozen BK442.out 0; have hfz37_1 := blk_frozen BK442.out 1; have hfz37_2 := blk_frozen BK442.out 2; have hfz37_3 := blk_frozen BK442.out 3; have hfz37_4 := blk_frozen BK442.out 4; have hfz37_5 := blk_frozen BK442.out 5; have hfz37_6 := blk_frozen BK442.out 6; have hnb38 := NB420_433.out; have hnc38 := NB433_420.out; have hcz39_0 : w28.cell? ⟨gb420, 0, none⟩ = some (.int .i64 ((rd_T46 l0 x5_1).f0)) := (blk_cell BK420.out 0).trans rfl; have hcz39_1 : w28.cell? ⟨gb420, 1, none⟩ = some (.int .i64 ((rd_T46 l0 x5_1).f1)) := (blk_cell BK420.out 1).trans rfl; have hcz39_2 : w28.cell? ⟨gb420, 2, none⟩ = some (.int .i64 ((rd_T46 l0 x5_1).f2)) := (blk_cell BK420.out 2).trans rfl; have hcz39_3 : w28.cell? ⟨gb420, 3, none⟩ = some (.int .i64 ((rd_T46 l0 x5_1).f3)) := (blk_cell BK420.out 3).trans rfl; have hcz39_4 : w28.cell? ⟨gb420, 4, none⟩ = some (.int .i64 ((rd_T46 l0 x5_1).f4)) := (blk_cell BK420.out 4).trans rfl; have hcz39_5 : w28.cell? ⟨gb420, 5, none⟩ = some (.int .i64 ((rd_T46 l0 x5_1).f5)) := (blk_cell BK420.out 5).trans rfl; have hcz39_6 : w28.cell? ⟨gb420, 6, none⟩ = some (.int .i64 ((rd_T46 l0 x5_1).f6)) := (blk_cell BK420.out 6).trans rfl; have hcz39_7 : w28.cell? ⟨gb420, 7, none⟩ = some (.bool ((rd_T46 l0 x5_1).f7)) := (blk_cell BK420.out 7).trans rfl; have hcz39_8 : w28.cell? ⟨gb420, 8, none⟩ = some (.bool ((rd_T46 l0 x5_1).f8)) := (blk_cell BK420.out 8).trans rfl; have hfz39_0 := blk_frozen BK420.out 0; have hfz39_1 := blk_frozen BK420.out 1; have hfz39_2 := blk_frozen BK420.out 2; have hfz39_3 := blk_frozen BK420.out 3; have hfz39_4 := blk_frozen BK420.out 4; have hfz39_5 := blk_frozen BK420.out 5; have hfz39_6 := blk_frozen BK420.out 6; have hfz39_7 := blk_frozen BK420.out 7; have hfz39_8 := blk_frozen BK420.out 8; have hcz40_0 : w28.cell? ⟨gb433, 0, none⟩ = some (.int .i64 t425) := (blk_cell BK433.out 0).trans rfl; have hcz40_1 : w28.cell? ⟨gb433, 1, none⟩ = some (.int .i64 t426) := (blk_cell BK433.out 1).trans rfl; have hcz40_2 : w28.cell? ⟨gb433, 2, none⟩ = some (.int .i64 t427) := (blk_cell BK433.out 2).trans rfl
            have hcz40_3 : w28.cell? ⟨gb433, 3, none⟩ = some (.int .i64 t428) := (blk_cell BK433.out 3).trans rfl; have hcz40_4 : w28.cell? ⟨gb433, 4, none⟩ = some (.int .i64 t429) := (blk_cell BK433.out 4).trans rfl; have hcz40_5 : w28.cell? ⟨gb433, 5, none⟩ = some (.int .i64 t430) := (blk_cell BK433.out 5).trans rfl; have hcz40_6 : w28.cell? ⟨gb433, 6, none⟩ = some (.int .i64 t431) := (blk_cell BK433.out 6).trans rfl; have hfz40_0 := blk_frozen BK433.out 0; have hfz40_1 := blk_frozen BK433.out 1; have hfz40_2 := blk_frozen BK433.out 2; have hfz40_3 := blk_frozen BK433.out 3; have hfz40_4 := blk_frozen BK433.out 4; have hfz40_5 := blk_frozen BK433.out 5; have hfz40_6 := blk_frozen BK433.out 6; go_wp2
            go_meet
            case rel => exact ⟨_, (decide (((rd_T46 l0 x5_1).f4) < t429)), (by first | rfl | (simp; done) | (simp [*]; done)), H', ⟨by have := HK1.out; first | omega | exact Nat.le_refl _⟩, ⟨by (with_reducible repeat (first | apply Kd.rA_ | apply Kd.rN_ | apply Kd.rD_)); exact Kd.R_mono (Kd.R_far (p := ⟨gb442, 6, none⟩) (Kd.R_far (p := ⟨gb442, 5, none⟩) (Kd.R_far (p := ⟨gb442, 4, none⟩) (Kd.R_far (p := ⟨gb442, 3, none⟩) (Kd.R_far (p := ⟨gb442, 2, none⟩) (Kd.R_far (p := ⟨gb442, 1, none⟩) (Kd.R_far (p := ⟨gb442, 0, none⟩) (Kd.R_types HO_4.out BK442.out (by decide)) (fun _ hk => hk.2) (.int .i64 t434)) (fun _ hk => hk.2) (.int .i64 t435)) (fun _ hk => hk.2) (.int .i64 t436)) (fun _ hk => hk.2) (.int .i64 t437)) (fun _ hk => hk.2) (.int .i64 t438)) (fun _ hk => hk.2) (.int .i64 t439)) (fun _ hk => hk.2) (.int .i64 t440)) (fun _ hk => hk.1)⟩, ⟨by (with_reducible repeat (first | apply Kd.V_alloc | apply Kd.V_drewN | apply Kd.V_drew)); exact Kd.V_mono (Kd.V_far (p := ⟨gb442, 6, none⟩) (Kd.V_far (p := ⟨gb442, 5, none⟩) (Kd.V_far (p := ⟨gb442, 4, none⟩) (Kd.V_far (p := ⟨gb442, 3, none⟩) (Kd.V_far (p := ⟨gb442, 2, none⟩) (Kd.V_far (p := ⟨gb442, 1, none⟩) (Kd.V_far (p := ⟨gb442, 0, none⟩) (Kd.V_mono HO423.out (fun k_ hk => (⟨hk, hk.2⟩ : _ ∧ k_ ≠ gb442))) (fun _ hk => hk.2) (.int .i64 t434)) (fun _ hk => hk.2) (.int .i64 t435)) (fun _ hk => hk.2) (.int .i64 t436)) (fun _ hk => hk.2) (.int .i64 t437)) (fun _ hk => hk.2) (.int .i64 t438)) (fun _ hk => hk.2) (.int .i64 t439)) (fun _ hk => hk.2) (.int .i64 t440)) (fun _ hk => ⟨hk.1.1.1.1, ⟨hk.1.1.1.2, ⟨hk.1.1.2, hk.1.2⟩⟩⟩)⟩, ⟨by (with_reducible repeat (first | refine bN_ ?_ _ | refine bD_ ?_ | refine bA_ ?_ _)); refine blk_far ?_ NB420_442.out _; (with_reducible repeat (first | refine bN_ ?_ _ | refine bD_ ?_ | refine bA_ ?_ _)); refine blk_far ?_ NB420_442.out _; (with_reducible repeat (first | refine bN_ ?_ _ | refine bD_ ?_ | refine bA_ ?_ _)); refine blk_far ?_ NB420_442.out _; (with_reducible repeat (first | refine bN_ ?_ _ | refine bD_ ?_ | refine bA_ ?_ _)); refine blk_far ?_ NB420_442.out _; (with_reducible repeat (first | refine bN_ ?_ _ | refine bD_ ?_ | refine bA_ ?_ _)); refine blk_far ?_ NB420_442.out _; (with_reducible repeat (first | refine bN_ ?_ _ | refine bD_ ?_ | refine bA_ ?_ _)); refine blk_far ?_ NB420_442.out _; (with_reducible repeat (first | refine bN_ ?_ _ | refine bD_ ?_ | refine bA_ ?_ _)); refine blk_far ?_ NB420_442.out _; (with_reducible repeat (first | refine bN_ ?_ _ | refine bD_ ?_ | refine bA_ ?_ _)); exact BK420.out⟩, ⟨by (with_reducible repeat (first | refine bN_ ?_ _ | refine bD_ ?_ | refine bA_ ?_ _)); refine blk_far ?_ NB433_442.out _; (with_reducible repeat (first | refine bN_ ?_ _ | refine bD_ ?_ | refine bA_ ?_ _)); refine blk_far ?_ NB433_442.out _; (with_reducible repeat (first | refine bN_ ?_ _ | refine bD_ ?_ | refine bA_ ?_ _)); refine blk_far ?_ NB433_442.out _; (with_reducible repeat (first | refine bN_ ?_ _ | refine bD_ ?_ | refine bA_ ?_ _)); refine blk_far ?_ NB433_442.out _; (with_reducible repeat (first | refine bN_ ?_ _ | refine bD_ ?_ | refine bA_ ?_ _)); refine blk_far ?_ NB433_442.out _; (with_reducible repeat (first | refine bN_ ?_ _ | refine bD_ ?_ | refine bA_ ?_ _)); refine blk_far ?_ NB433_442.out _; (with_reducible repeat (first | refine bN_ ?_ _ | refine bD_ ?_ | refine bA_ ?_ _)); refine blk_far ?_ NB433_442.out _; (with_reducible repeat (first | refine bN_ ?_ _ | refine bD_ ?_ | refine bA_ ?_ _)); exact BK433.out⟩, ⟨by (with_reducible repeat (first | refine bN_ ?_ _ | refine bD_ ?_ | refine bA_ ?_ _)); refine blk_put (cs := #[.int .i64 t434, .int .i64 t435, .int .i64 t436, .int .i64 t437, .int .i64 t438, .int .i64 t439, .int .i64 0]) ?_ 6 _ rfl; (with_reducible repeat (first | refine bN_ ?_ _ | refine bD_ ?_ | refine bA_ ?_ _)); refine blk_put (cs := #[.int .i64 t434, .int .i64 t435, .int .i64 t436, .int .i64 t437, .int .i64 t438, .int .i64 0, .int .i64 0]) ?_ 5 _ rfl; (with_reducible repeat (first | refine bN_ ?_ _ | refine bD_ ?_ | refine bA_ ?_ _)); refine blk_put (cs := #[.int .i64 t434, .int .i64 t435, .int .i64 t436, .int .i64 t437, .int .i64 0, .int .i64 0, .int .i64 0]) ?_ 4 _ rfl; (with_reducible repeat (first | refine bN_ ?_ _ | refine bD_ ?_ | refine bA_ ?_ _)); refine blk_put (cs := #[.int .i64 t434, .int .i64 t435, .int .i64 t436, .int .i64 0, .int .i64 0, .int .i64 0, .int .i64 0]) ?_ 3 _ rfl; (with_reducible repeat (first | refine bN_ ?_ _ | refine bD_ ?_ | refine bA_ ?_ _)); refine blk_put (cs := #[.int .i64 t434, .int .i64 t435, .int .i64 0, .int .i64 0, .int .i64 0, .int .i64 0, .int .i64 0]) ?_ 2 _ rfl; (with_reducible repeat (first | refine bN_ ?_ _ | refine bD_ ?_ | refine bA_ ?_ _)); refine blk_put (cs := #[.int .i64 t434, .int .i64 0, .int .i64 0, .int .i64 0, .int .i64 0, .int .i64 0, .int .i64 0]) ?_ 1 _ rfl; (with_reducible repeat (first | refine bN_ ?_ _ | refine bD_ ?_ | refine bA_ ?_ _)); refine blk_put (cs := #[.int .i64 0, .int .i64 0, .int .i64 0, .int .i64 0, .int .i64 0, .int .i64 0, .int .i64 0]) ?_ 0 _ rfl; (with_reducible repeat (first | refine bN_ ?_ _ | refine bD_ ?_ | refine bA_ ?_ _)); exact BK442.out⟩, ⟨by repeat (first | (with_reducible first | exact HB.out | apply lA_ | apply lN_ | apply lD_ | refine lS_ ?_ GE420.out | refine lS_ ?_ GE433.out | refine lS_ ?_ GE442.out) | exact HB.out)⟩⟩
           ·
            replace c34 := Bool.eq_false_iff.mpr c34; subst c34; have H1 : (skiarealaw51_BlastCleared.j1 k1 l0 x4_1 x5_1 t421 false false ((rd_T46 l0 x5_1).f0) ((rd_T46 l0 x5_1).f1) ((rd_T46 l0 x5_1).f2) ((rd_T46 l0 x5_1).f3) ((rd_T46 l0 x5_1).f4) ((rd_T46 l0 x5_1).f5) ((rd_T46 l0 x5_1).f6) ((rd_T46 l0 x5_1).f7) ((rd_T46 l0 x5_1).f8) t425 t426 t427 t428 t429 t430 t431 t434 t435 t436 t437 t438 t439 t440) = some r := by rw [if_neg (show ¬ (false = true) by decide)] at H; exact H
            clear H; have H := H1; clear H1; have H' := Aside0.mk H; clear H; have hnb41 := NB442_420.out; have hnc41 := NB420_442.out; have hnb42 := NB442_433.out; have hnc42 := NB433_442.out; have hcz43_0 : w28.cell? ⟨gb442, 0, none⟩ = some (.int .i64 0) := (blk_cell BK442.out 0).trans rfl; have hcz43_1 : w28.cell? ⟨gb442, 1, none⟩ = some (.int .i64 0) := (blk_cell BK442.out 1).trans rfl; have hcz43_2 : w28.cell? ⟨gb442, 2, none⟩ = some (.int .i64 0) := (blk_cell BK442.out 2).trans rfl; have hcz43_3 : w28.cell? ⟨gb442, 3, none⟩ = some (.int .i64 0) := (blk_cell BK442.out 3).trans rfl; have hcz43_4 : w28.cell? ⟨gb442, 4, none⟩ = some (.int .i64 0) := (blk_cell BK442.out 4).trans rfl; have hcz43_5 : w28.cell? ⟨gb442, 5, none⟩ = some (.int .i64 0) := (blk_cell BK442.out 5).trans rfl; have hcz43_6 : w28.cell? ⟨gb442, 6, none⟩ = some (.int .i64 0) := (blk_cell BK442.out 6).trans rfl; have hfz43_0 := blk_frozen BK442.out 0; have hfz43_1 := blk_frozen BK442.out 1; have hfz43_2 := blk_frozen BK442.out 2; have hfz43_3 := blk_frozen BK442.out 3; have hfz43_4 := blk_frozen BK442.out 4; have hfz43_5 := blk_frozen BK442.out 5; have hfz43_6 := blk_frozen BK442.out 6; have hnb44 := NB420_433.out; have hnc44 := NB433_420.out; have hcz45_0 : w28.cell? ⟨gb420, 0, none⟩ = some (.int .i64 ((rd_T46 l0 x5_1).f0)) := (blk_cell BK420.out 0).trans rfl; have hcz45_1 : w28.cell? ⟨gb420, 1, none⟩ = some (.int .i64 ((rd_T46 l0 x5_1).f1)) := (blk_cell BK420.out 1).trans rfl; have hcz45_2 : w28.cell? ⟨gb420, 2, none⟩ = some (.int .i64 ((rd_T46 l0 x5_1).f2)) := (blk_cell BK420.out 2).trans rfl; have hcz45_3 : w28.cell? ⟨gb420, 3, none⟩ = some (.int .i64 ((rd_T46 l0 x5_1).f3)) := (blk_cell BK420.out 3).trans rfl; have hcz45_4 : w28.cell? ⟨gb420, 4, none⟩ = some (.int .i64 ((rd_T46 l0 x5_1).f4)) := (blk_cell BK420.out 4).trans rfl; have hcz45_5 : w28.cell? ⟨gb420, 5, none⟩ = some (.int .i64 ((rd_T46 l0 x5_1).f5)) := (blk_cell BK420.out 5).trans rfl; have hcz45_6 : w28.cell? ⟨gb420, 6, none⟩ = some (.int .i64 ((rd_T46 l0 x5_1).f6)) := (blk_cell BK420.out 6).trans rfl; have hcz45_7 : w28.cell? ⟨gb420, 7, none⟩ = some (.bool ((rd_T46 l0 x5_1).f7)) := (blk_cell BK420.out 7).trans rfl; have hcz45_8 : w28.cell? ⟨gb420, 8, none⟩ = some (.bool ((rd_T46 l0 x5_1).f8)) := (blk_cell BK420.out 8).trans rfl; have hfz45_0 := blk_frozen BK420.out 0; have hfz45_1 := blk_frozen BK420.out 1; have hfz45_2 := blk_frozen BK420.out 2; have hfz45_3 := blk_frozen BK420.out 3; have hfz45_4 := blk_frozen BK420.out 4; have hfz45_5 := blk_frozen BK420.out 5; have hfz45_6 := blk_frozen BK420.out 6; have hfz45_7 := blk_frozen BK420.out 7; have hfz45_8 := blk_frozen BK420.out 8; go_wp2
            go_meet
            case rel => exact ⟨_, (false), (by first | rfl | (simp; done) | (simp [*]; done)), H', ⟨by have := HK1.out; first | omega | exact Nat.le_refl _⟩, ⟨by (with_reducible repeat (first | apply Kd.rA_ | apply Kd.rN_ | apply Kd.rD_)); exact Kd.R_mono (Kd.R_far (p := ⟨gb442, 6, none⟩) (Kd.R_far (p := ⟨gb442, 5, none⟩) (Kd.R_far (p := ⟨gb442, 4, none⟩) (Kd.R_far (p := ⟨gb442, 3, none⟩) (Kd.R_far (p := ⟨gb442, 2, none⟩) (Kd.R_far (p := ⟨gb442, 1, none⟩) (Kd.R_far (p := ⟨gb442, 0, none⟩) (Kd.R_types HO_4.out BK442.out (by decide)) (fun _ hk => hk.2) (.int .i64 t434)) (fun _ hk => hk.2) (.int .i64 t435)) (fun _ hk => hk.2) (.int .i64 t436)) (fun _ hk => hk.2) (.int .i64 t437)) (fun _ hk => hk.2) (.int .i64 t438)) (fun _ hk => hk.2) (.int .i64 t439)) (fun _ hk => hk.2) (.int .i64 t440)) (fun _ hk => hk.1)⟩, ⟨by (with_reducible repeat (first | apply Kd.V_alloc | apply Kd.V_drewN | apply Kd.V_drew)); exact Kd.V_mono (Kd.V_far (p := ⟨gb442, 6, none⟩) (Kd.V_far (p := ⟨gb442, 5, none⟩) (Kd.V_far (p := ⟨gb442, 4, none⟩) (Kd.V_far (p := ⟨gb442, 3, none⟩) (Kd.V_far (p := ⟨gb442, 2, none⟩) (Kd.V_far (p := ⟨gb442, 1, none⟩) (Kd.V_far (p := ⟨gb442, 0, none⟩) (Kd.V_mono HO423.out (fun k_ hk => (⟨hk, hk.2⟩ : _ ∧ k_ ≠ gb442))) (fun _ hk => hk.2) (.int .i64 t434)) (fun _ hk => hk.2) (.int .i64 t435)) (fun _ hk => hk.2) (.int .i64 t436)) (fun _ hk => hk.2) (.int .i64 t437)) (fun _ hk => hk.2) (.int .i64 t438)) (fun _ hk => hk.2) (.int .i64 t439)) (fun _ hk => hk.2) (.int .i64 t440)) (fun _ hk => ⟨hk.1.1.1.1, ⟨hk.1.1.1.2, ⟨hk.1.1.2, hk.1.2⟩⟩⟩)⟩, ⟨by (with_reducible repeat (first | refine bN_ ?_ _ | refine bD_ ?_ | refine bA_ ?_ _)); refine blk_far ?_ NB420_442.out _; (with_reducible repeat (first | refine bN_ ?_ _ | refine bD_ ?_ | refine bA_ ?_ _)); refine blk_far ?_ NB420_442.out _; (with_reducible repeat (first | refine bN_ ?_ _ | refine bD_ ?_ | refine bA_ ?_ _)); refine blk_far ?_ NB420_442.out _; (with_reducible repeat (first | refine bN_ ?_ _ | refine bD_ ?_ | refine bA_ ?_ _)); refine blk_far ?_ NB420_442.out _; (with_reducible repeat (first | refine bN_ ?_ _ | refine bD_ ?_ | refine bA_ ?_ _)); refine blk_far ?_ NB420_442.out _; (with_reducible repeat (first | refine bN_ ?_ _ | refine bD_ ?_ | refine bA_ ?_ _)); refine blk_far ?_ NB420_442.out _; (with_reducible repeat (first | refine bN_ ?_ _ | refine bD_ ?_ | refine bA_ ?_ _)); refine blk_far ?_ NB420_442.out _; (with_reducible repeat (first | refine bN_ ?_ _ | refine bD_ ?_ | refine bA_ ?_ _)); exact BK420.out⟩, ⟨by (with_reducible repeat (first | refine bN_ ?_ _ | refine bD_ ?_ | refine bA_ ?_ _)); refine blk_far ?_ NB433_442.out _; (with_reducible repeat (first | refine bN_ ?_ _ | refine bD_ ?_ | refine bA_ ?_ _)); refine blk_far ?_ NB433_442.out _; (with_reducible repeat (first | refine bN_ ?_ _ | refine bD_ ?_ | refine bA_ ?_ _)); refine blk_far ?_ NB433_442.out _; (with_reducible repeat (first | refine bN_ ?_ _ | refine bD_ ?_ | refine bA_ ?_ _)); refine blk_far ?_ NB433_442.out _; (with_reducible repeat (first | refine bN_ ?_ _ | refine bD_ ?_ | refine bA_ ?_ _)); refine blk_far ?_ NB433_442.out _; (with_reducible repeat (first | refine bN_ ?_ _ | refine bD_ ?_ | refine bA_ ?_ _)); refine blk_far ?_ NB433_442.out _; (with_reducible repeat (first | refine bN_ ?_ _ | refine bD_ ?_ | refine bA_ ?_ _)); refine blk_far ?_ NB433_442.out _; (with_reducible repeat (first | refine bN_ ?_ _ | refine bD_ ?_ | refine bA_ ?_ _)); exact BK433.out⟩, ⟨by (with_reducible repeat (first | refine bN_ ?_ _ | refine bD_ ?_ | refine bA_ ?_ _)); refine blk_put (cs := #[.int .i64 t434, .int .i64 t435, .int .i64 t436, .int .i64 t437, .int .i64 t438, .int .i64 t439, .int .i64 0]) ?_ 6 _ rfl; (with_reducible repeat (first | refine bN_ ?_ _ | refine bD_ ?_ | refine bA_ ?_ _)); refine blk_put (cs := #[.int .i64 t434, .int .i64 t435, .int .i64 t436, .int .i64 t437, .int .i64 t438, .int .i64 0, .int .i64 0]) ?_ 5 _ rfl; (with_reducible repeat (first | refine bN_ ?_ _ | refine bD_ ?_ | refine bA_ ?_ _)); refine blk_put (cs := #[.int .i64 t434, .int .i64 t435, .int .i64 t436, .int .i64 t437, .int .i64 0, .int .i64 0, .int .i64 0]) ?_ 4 _ rfl; (with_reducible repeat (first | refine bN_ ?_ _ | refine bD_ ?_ | refine bA_ ?_ _)); refine blk_put (cs := #[.int .i64 t434, .int .i64 t435, .int .i64 t436, .int .i64 0, .int .i64 0, .int .i64 0, .int .i64 0]) ?_ 3 _ rfl; (with_reducible repeat (first | refine bN_ ?_ _ | refine bD_ ?_ | refine bA_ ?_ _)); refine blk_put (cs := #[.int .i64 t434, .int .i64 t435, .int .i64 0, .int .i64 0, .int .i64 0, .int .i64 0, .int .i64 0]) ?_ 2 _ rfl; (with_reducible repeat (first | refine bN_ ?_ _ | refine bD_ ?_ | refine bA_ ?_ _)); refine blk_put (cs := #[.int .i64 t434, .int .i64 0, .int .i64 0, .int .i64 0, .int .i64 0, .int .i64 0, .int .i64 0]) ?_ 1 _ rfl; (with_reducible repeat (first | refine bN_ ?_ _ | refine bD_ ?_ | refine bA_ ?_ _)); refine blk_put (cs := #[.int .i64 0, .int .i64 0, .int .i64 0, .int .i64 0, .int .i64 0, .int .i64 0, .int .i64 0]) ?_ 0 _ rfl; (with_reducible repeat (first | refine bN_ ?_ _ | refine bD_ ?_ | refine bA_ ?_ _)); exact BK442.out⟩, ⟨by repeat (first | (with_reducible first | exact HB.out | apply lA_ | apply lN_ | apply lD_ | refine lS_ ?_ GE420.out | refine lS_ ?_ GE433.out | refine lS_ ?_ GE442.out) | exact HB.out)⟩⟩
          ·
           rw [if_neg c33] at H
           exact absurd H (by simp)
         ·
          replace c32 := Bool.eq_false_iff.mpr c32; subst c32; have H1 : (none) = some r := by rw [if_neg (show ¬ (false = true) by decide)] at H; exact H
          clear H; have H := H1; clear H1
          exact absurd H (by simp)
        case rest =>
         clear HC13; try clear c1
         try clear c2
         try clear p2
         try clear c3
         try clear c4
         try clear c4b0
         try clear c4b1
         try clear p4
         try clear q4
         try clear hx4
         try clear p6
         try clear c7
         try clear c7b0
         try clear c8
         try clear c8b0
         try clear c10
         try clear c11
         try clear c23
         try clear c29
         try clear c30
         try clear c31
         try clear c32
         try clear c33
         try clear c33b0
         try clear c33b1
         try clear c34
         try clear c35
         try clear c36
         try clear c38
         try clear c41
         try clear p41
         try clear q41
         try clear hx41
         try clear c42
         try clear c44
         try clear hcz15_0
         try clear hcz15_1
         try clear hcz15_2
         try clear hcz15_3
         try clear hcz15_4
         try clear hcz15_5
         try clear hcz15_6
         try clear hcz15_7
         try clear hcz15_8
         try clear hcz17_0
         try clear hcz17_1
         try clear hcz17_2
         try clear hcz17_3
         try clear hcz17_4
         try clear hcz17_5
         try clear hcz17_6
         try clear hcz17_7
         try clear hcz17_8
         try clear hcz20_0
         try clear hcz20_1
         try clear hcz20_2
         try clear hcz20_3
         try clear hcz20_4
         try clear hcz20_5
         try clear hcz20_6
         try clear hcz20_7
         try clear hcz20_8
         try clear hcz24_0
         try clear hcz24_1
         try clear hcz24_2
         try clear hcz24_3
         try clear hcz24_4
         try clear hcz24_5
         try clear hcz24_6
         try clear hcz25_0
         try clear hcz25_1
         try clear hcz25_2
         try clear hcz25_3
         try clear hcz25_4
         try clear hcz25_5
         try clear hcz25_6
         try clear hcz25_7
         try clear hcz25_8
         try clear hcz31_0
         try clear hcz31_1
         try clear hcz31_2
         try clear hcz31_3
         try clear hcz31_4
         try clear hcz31_5
         try clear hcz31_6
         try clear hcz37_0
         try clear hcz37_1
         try clear hcz37_2
         try clear hcz37_3
         try clear hcz37_4
         try clear hcz37_5
         try clear hcz37_6
         try clear hcz39_0
         try clear hcz39_1
         try clear hcz39_2
         try clear hcz39_3
         try clear hcz39_4
         try clear hcz39_5
         try clear hcz39_6
         try clear hcz39_7
         try clear hcz39_8
         try clear hcz40_0
         try clear hcz40_1
         try clear hcz40_2
         try clear hcz40_3
         try clear hcz40_4
         try clear hcz40_5
         try clear hcz40_6
         try clear hcz43_0
         try clear hcz43_1
         try clear hcz43_2
         try clear hcz43_3
         try clear hcz43_4
         try clear hcz43_5
         try clear hcz43_6
         try clear hcz45_0
         try clear hcz45_1
         try clear hcz45_2
         try clear hcz45_3
         try clear hcz45_4
         try clear hcz45_5
         try clear hcz45_6
         try clear hcz45_7
         try clear hcz45_8
         try clear hfz15_0
         try clear hfz15_1
         try clear hfz15_2
         try clear hfz15_3
         try clear hfz15_4
         try clear hfz15_5
         try clear hfz15_6
         try clear hfz15_7
         try clear hfz15_8
         try clear hfz17_0
         try clear hfz17_1
         try clear hfz17_2
         try clear hfz17_3
         try clear hfz17_4
         try clear hfz17_5
         try clear hfz17_6
         try clear hfz17_7
         try clear hfz17_8
         try clear hfz20_0
         try clear hfz20_1
         try clear hfz20_2
         try clear hfz20_3
         try clear hfz20_4
         try clear hfz20_5
         try clear hfz20_6
         try clear hfz20_7
         try clear hfz20_8
         try clear hfz24_0
         try clear hfz24_1
         try clear hfz24_2
         try clear hfz24_3
         try clear hfz24_4
         try clear hfz24_5
         try clear hfz24_6
         try clear hfz25_0
         try clear hfz25_1
         try clear hfz25_2
         try clear hfz25_3
         try clear hfz25_4
         try clear hfz25_5
         try clear hfz25_6
         try clear hfz25_7
         try clear hfz25_8
         try clear hfz31_0
         try clear hfz31_1
         try clear hfz31_2
         try clear hfz31_3
         try clear hfz31_4
         try clear hfz31_5
         try clear hfz31_6
         try clear hfz37_0
         try clear hfz37_1
         try clear hfz37_2
         try clear hfz37_3
         try clear hfz37_4
         try clear hfz37_5
         try clear hfz37_6
         try clear hfz39_0
         try clear hfz39_1
         try clear hfz39_2
         try clear hfz39_3
         try clear hfz39_4
         try clear hfz39_5
         try clear hfz39_6
         try clear hfz39_7
         try clear hfz39_8
         try clear hfz40_0
         try clear hfz40_1
         try clear hfz40_2
         try clear hfz40_3
         try clear hfz40_4
         try clear hfz40_5
         try clear hfz40_6
         try clear hfz43_0
         try clear hfz43_1
         try clear hfz43_2
         try clear hfz43_3
         try clear hfz43_4
         try clear hfz43_5
         try clear hfz43_6
         try clear hfz45_0
         try clear hfz45_1
         try clear hfz45_2
         try clear hfz45_3
         try clear hfz45_4
         try clear hfz45_5
         try clear hfz45_6
         try clear hfz45_7
         try clear hfz45_8
         try clear hx419_0
         try clear hx419_1
         try clear hx419_2
         try clear hx419_3
         try clear hx419_4
         try clear hx419_5
         try clear hx419_6
         try clear hx419_7
         try clear hx419_8
         try clear p2
         try clear p419
         try clear q419
         obtain ⟨kq, x68_12, rfl, HA, HJ12, HO_4, HO_7, BK420, BK433, BK442, HB⟩ := hcut
         cases kq with
         | zero => exact absurd HA.out (by simp [skiarealaw51_BlastCleared.j1])
         | succ kj12 =>
          have H := HA.out; clear HA; simp only [skiarealaw51_BlastCleared.j1] at H
          by_cases c46 : x68_12 = true
          ·
           subst c46; have H1 : (none) = some r := by rw [if_pos rfl] at H; exact H
           clear H; have H := H1; clear H1
           exact absurd H (by simp)
          ·
           replace c46 := Bool.eq_false_iff.mpr c46; subst c46; have H1 : (if ((rd_T46 l0 x5_1).f0) = 3 then (if t432 = true then (if ((rd_T46 l0 x5_1).f8) = true then (if ((rd_T46 l0 x5_1).f3) = t427 then ((skiarealaw51_done.f kj12 x4_1 1 t425 t426 t427 t428 t429 t430 t431 0).bind fun t443 => (if t443 = true then ((skiarealaw51_done.f kj12 x4_1 2 t425 t426 t427 t428 t429 t430 t431 t427).bind fun t444 => (skiarealaw51_BlastCleared.j2 kj12 l0 x4_1 x5_1 t421 (!t444) ((rd_T46 l0 x5_1).f0) ((rd_T46 l0 x5_1).f1) ((rd_T46 l0 x5_1).f2) ((rd_T46 l0 x5_1).f3) ((rd_T46 l0 x5_1).f4) ((rd_T46 l0 x5_1).f5) ((rd_T46 l0 x5_1).f6) ((rd_T46 l0 x5_1).f7) ((rd_T46 l0 x5_1).f8) t434 t435 t436 t437 t438 t439 t440)) else (none))) else (none)) else (none)) else (none)) else (skiarealaw51_BlastCleared.j2 kj12 l0 x4_1 x5_1 t421 false ((rd_T46 l0 x5_1).f0) ((rd_T46 l0 x5_1).f1) ((rd_T46 l0 x5_1).f2) ((rd_T46 l0 x5_1).f3) ((rd_T46 l0 x5_1).f4) ((rd_T46 l0 x5_1).f5) ((rd_T46 l0 x5_1).f6) ((rd_T46 l0 x5_1).f7) ((rd_T46 l0 x5_1).f8) t434 t435 t436 t437 t438 t439 t440)) = some r := by rw [if_neg (show ¬ (false = true) by decide)] at H; exact H
           clear H; have H := H1; clear H1; have HC47 := Aside0.mk H; clear H; go_upto_region 17 with (fail)
           go_cut [101] (fun v101 wc => ∃ (kq : Nat) (x101_46 : Bool), v101 = .bool x101_46 ∧ Aside0 (skiarealaw51_BlastCleared.j2 kq l0 x4_1 x5_1 t421 x101_46 ((rd_T46 l0 x5_1).f0) ((rd_T46 l0 x5_1).f1) ((rd_T46 l0 x5_1).f2) ((rd_T46 l0 x5_1).f3) ((rd_T46 l0 x5_1).f4) ((rd_T46 l0 x5_1).f5) ((rd_T46 l0 x5_1).f6) ((rd_T46 l0 x5_1).f7) ((rd_T46 l0 x5_1).f8) t434 t435 t436 t437 t438 t439 t440 = some r) ∧ Aside0 (kq ≤ kj12) ∧ Aside0 (Kd.R k46 46 wc w.heap.size (fun k_ => k_ ≠ gb420) u4 x4_1) ∧ Aside0 (Kd.V k30 30 wc w.heap.size (fun k_ => some k_ ≠ (u4 : Value).ownBlock ∧ k_ ≠ gb420 ∧ k_ ≠ gb433 ∧ k_ ≠ gb442) (.slice Ao26 t421.length co26) t421) ∧ Aside0 (wc.heap[gb420]? = some (.cells #[.int .i64 ((rd_T46 l0 x5_1).f0), .int .i64 ((rd_T46 l0 x5_1).f1), .int .i64 ((rd_T46 l0 x5_1).f2), .int .i64 ((rd_T46 l0 x5_1).f3), .int .i64 ((rd_T46 l0 x5_1).f4), .int .i64 ((rd_T46 l0 x5_1).f5), .int .i64 ((rd_T46 l0 x5_1).f6), .bool ((rd_T46 l0 x5_1).f7), .bool ((rd_T46 l0 x5_1).f8)] 46 (0, 0))) ∧ Aside0 (wc.heap[gb433]? = some (.cells #[.int .i64 t425, .int .i64 t426, .int .i64 t427, .int .i64 t428, .int .i64 t429, .int .i64 t430, .int .i64 t431] 30 (0, 0))) ∧ Aside0 (wc.heap[gb442]? = some (.cells #[.int .i64 t434, .int .i64 t435, .int .i64 t436, .int .i64 t437, .int .i64 t438, .int .i64 t439, .int .i64 t440] 30 (0, 0))) ∧ Aside0 (Below w.heap.size w wc))
           case first =>
            have H := HC47.out; clear HC47; by_cases c48 : ((rd_T46 l0 x5_1).f0) = 3
            ·
             rw [if_pos c48] at H
             have c48b0 : (((rd_T46 l0 x5_1).f0) == 3) = true := beq_iff_eq.mpr c48; have c48b1 : (((rd_T46 l0 x5_1).f0) != 3) = false := bne_eq_false_iff_eq.mpr c48; clear c48; (first | rw [c48b0] | (simp only [i64_w, i32_w]; rw [c48b0]) | skip)
             by_cases c49 : t432 = true
             ·
              subst c49; have H1 : (if ((rd_T46 l0 x5_1).f8) = true then (if ((rd_T46 l0 x5_1).f3) = t427 then ((skiarealaw51_done.f kj12 x4_1 1 t425 t426 t427 t428 t429 t430 t431 0).bind fun t443 => (if t443 = true then ((skiarealaw51_done.f kj12 x4_1 2 t425 t426 t427 t428 t429 t430 t431 t427).bind fun t444 => (skiarealaw51_BlastCleared.j2 kj12 l0 x4_1 x5_1 t421 (!t444) ((rd_T46 l0 x5_1).f0) ((rd_T46 l0 x5_1).f1) ((rd_T46 l0 x5_1).f2) ((rd_T46 l0 x5_1).f3) ((rd_T46 l0 x5_1).f4) ((rd_T46 l0 x5_1).f5) ((rd_T46 l0 x5_1).f6) ((rd_T46 l0 x5_1).f7) ((rd_T46 l0 x5_1).f8) t434 t435 t436 t437 t438 t439 t440)) else (none))) else (none)) else (none)) = some r := by rw [if_pos rfl] at H; exact H
              clear H; have H := H1; clear H1; by_cases c50 : ((rd_T46 l0 x5_1).f8) = true
              ·
               rw [if_pos c50] at H
               have c50b0 : ((rd_T46 l0 x5_1).f8) = true := c50; clear c50; by_cases c51 : ((rd_T46 l0 x5_1).f3) = t427
               ·
                rw [if_pos c51] at H
                have c51b0 : (((rd_T46 l0 x5_1).f3) == t427) = true := beq_iff_eq.mpr c51; have c51b1 : (((rd_T46 l0 x5_1).f3) != t427) = false := bne_eq_false_iff_eq.mpr c51; clear c51; replace H := Option.bind_eq_some_iff.mp H; obtain ⟨t443, A520, H⟩ := H; replace H : (if t443 = true then ((skiarealaw51_done.f kj12 x4_1 2 t425 t426 t427 t428 t429 t430 t431 t427).bind fun t444 => (skiarealaw51_BlastCleared.j2 kj12 l0 x4_1 x5_1 t421 (!t444) ((rd_T46 l0 x5_1).f0) ((rd_T46 l0 x5_1).f1) ((rd_T46 l0 x5_1).f2) ((rd_T46 l0 x5_1).f3) ((rd_T46 l0 x5_1).f4) ((rd_T46 l0 x5_1).f5) ((rd_T46 l0 x5_1).f6) ((rd_T46 l0 x5_1).f7) ((rd_T46 l0 x5_1).f8) t434 t435 t436 t437 t438 t439 t440)) else (none)) = some r := H; have A52 := Aside0.mk A520; clear A520; by_cases c53 : t443 = true
                ·
                 subst c53; have H1 : ((skiarealaw51_done.f kj12 x4_1 2 t425 t426 t427 t428 t429 t430 t431 t427).bind fun t444 => (skiarealaw51_BlastCleared.j2 kj12 l0 x4_1 x5_1 t421 (!t444) ((rd_T46 l0 x5_1).f0) ((rd_T46 l0 x5_1).f1) ((rd_T46 l0 x5_1).f2) ((rd_T46 l0 x5_1).f3) ((rd_T46 l0 x5_1).f4) ((rd_T46 l0 x5_1).f5) ((rd_T46 l0 x5_1).f6) ((rd_T46 l0 x5_1).f7) ((rd_T46 l0 x5_1).f8) t434 t435 t436 t437 t438 t439 t440)) = some r := by rw [if_pos rfl] at H; exact H
                 clear H; have H := H1; clear H1; replace H := Option.bind_eq_some_iff.mp H; obtain ⟨t444, A540, H⟩ := H; replace H : (skiarealaw51_BlastCleared.j2 kj12 l0 x4_1 x5_1 t421 (!t444) ((rd_T46 l0 x5_1).f0) ((rd_T46 l0 x5_1).f1) ((rd_T46 l0 x5_1).f2) ((rd_T46 l0 x5_1).f3) ((rd_T46 l0 x5_1).f4) ((rd_T46 l0 x5_1).f5) ((rd_T46 l0 x5_1).f6) ((rd_T46 l0 x5_1).f7) ((rd_T46 l0 x5_1).f8) t434 t435 t436 t437 t438 t439 t440) = some r := H; have A54 := Aside0.mk A540; clear A540; have H' := Aside0.mk H; clear H; have hnb55 := NB420_433.out; have hnc55 := NB433_420.out; have hnb56 := NB420_442.out; have hnc56 := NB442_420.out; have hcz57_0 : wc.cell? ⟨gb420, 0, none⟩ = some (.int .i64 ((rd_T46 l0 x5_1).f0)) := (blk_cell BK420.out 0).trans rfl; have hcz57_1 : wc.cell? ⟨gb420, 1, none⟩ = some (.int .i64 ((rd_T46 l0 x5_1).f1)) := (blk_cell BK420.out 1).trans rfl; have hcz57_2 : wc.cell? ⟨gb420, 2, none⟩ = some (.int .i64 ((rd_T46 l0 x5_1).f2)) := (blk_cell BK420.out 2).trans rfl; have hcz57_3 : wc.cell? ⟨gb420, 3, none⟩ = some (.int .i64 ((rd_T46 l0 x5_1).f3)) := (blk_cell BK420.out 3).trans rfl; have hcz57_4 : wc.cell? ⟨gb420, 4, none⟩ = some (.int .i64 ((rd_T46 l0 x5_1).f4)) := (blk_cell BK420.out 4).trans rfl; have hcz57_5 : wc.cell? ⟨gb420, 5, none⟩ = some (.int .i64 ((rd_T46 l0 x5_1).f5)) := (blk_cell BK420.out 5).trans rfl; have hcz57_6 : wc.cell? ⟨gb420, 6, none⟩ = some (.int .i64 ((rd_T46 l0 x5_1).f6)) := (blk_cell BK420.out 6).trans rfl; have hcz57_7 : wc.cell? ⟨gb420, 7, none⟩ = some (.bool ((rd_T46 l0 x5_1).f7)) := (blk_cell BK420.out 7).trans rfl; have hcz57_8 : wc.cell? ⟨gb420, 8, none⟩ = some (.bool ((rd_T46 l0 x5_1).f8)) := (blk_cell BK420.out 8).trans rfl; have hfz57_0 := blk_frozen BK420.out 0; have hfz57_1 := blk_frozen BK420.out 1; have hfz57_2 := blk_frozen BK420.out 2; have hfz57_3 := blk_frozen BK420.out 3; have hfz57_4 := blk_frozen BK420.out 4; have hfz57_5 := blk_frozen BK420.out 5; have hfz57_6 := blk_frozen BK420.out 6; have hfz57_7 := blk_frozen BK420.out 7; have hfz57_8 := blk_frozen BK420.out 8; have hnb58 := NB433_442.out; have hnc58 := NB442_433.out; have hcz59_0 : wc.cell? ⟨gb433, 0, none⟩ = some (.int .i64 t425) := (blk_cell BK433.out 0).trans rfl; have hcz59_1 : wc.cell? ⟨gb433, 1, none⟩ = some (.int .i64 t426) := (blk_cell BK433.out 1).trans rfl; have hcz59_2 : wc.cell? ⟨gb433, 2, none⟩ = some (.int .i64 t427) := (blk_cell BK433.out 2).trans rfl; have hcz59_3 : wc.cell? ⟨gb433, 3, none⟩ = some (.int .i64 t428) := (blk_cell BK433.out 3).trans rfl; have hcz59_4 : wc.cell? ⟨gb433, 4, none⟩ = some (.int .i64 t429) := (blk_cell BK433.out 4).trans rfl; have hcz59_5 : wc.cell? ⟨gb433, 5, none⟩ = some (.int .i64 t430) := (blk_cell BK433.out 5).trans rfl; have hcz59_6 : wc.cell? ⟨gb433, 6, none⟩ = some (.int .i64 t431) := (blk_cell BK433.out 6).trans rfl; have hfz59_0 := blk_frozen BK433.out 0; have hfz59_1 := blk_frozen BK433.out 1; have hfz59_2 := blk_frozen BK433.out 2; have hfz59_3 := blk_frozen BK433.out 3
                 have hfz59_4 := blk_frozen BK433.out 4; have hfz59_5 := blk_frozen BK433.out 5; have hfz59_6 := blk_frozen BK433.out 6; obtain ⟨Ao60, co60, eo60⟩ := Kd.R_slice HO_4.out; subst eo60
                 go_wp2_with (first | (go_at_call 32; (with_reducible refine (skiarealaw51_done.calls kj12 _ _ x4_1 1 t425 t426 t427 t428 t429 t430 t431 0 true _ ?side1 ?side2 A52.out).mono ?_); (case side1 => repeat (first | exact (Kd.R_reads' HO_4.out).2.2 | (with_reducible refine Kd.cA_ ?_ _) | (with_reducible refine Kd.cN_ ?_ _) | (with_reducible refine Kd.cD_ ?_))); (case side2 => exact (Kd.R_reads' HO_4.out).2.1); rintro e w61 ⟨rfl, hb⟩; (try clear A52); have n0_ := Aside0.mk (Kd.R_below (by (with_reducible repeat (first | apply Kd.rA_ | apply Kd.rN_ | apply Kd.rD_)); exact HO_4.out) hb); have n1_ := Aside0.mk (Kd.V_below (by (with_reducible repeat (first | apply Kd.V_alloc | apply Kd.V_drewN | apply Kd.V_drew)); exact HO_7.out) hb); have n2_ := Aside0.mk (blk_below (g := gb420) (o := .cells #[.int .i64 ((rd_T46 l0 x5_1).f0), .int .i64 ((rd_T46 l0 x5_1).f1), .int .i64 ((rd_T46 l0 x5_1).f2), .int .i64 ((rd_T46 l0 x5_1).f3), .int .i64 ((rd_T46 l0 x5_1).f4), .int .i64 ((rd_T46 l0 x5_1).f5), .int .i64 ((rd_T46 l0 x5_1).f6), .bool ((rd_T46 l0 x5_1).f7), .bool ((rd_T46 l0 x5_1).f8)] 46 (0, 0)) (by (with_reducible repeat (first | refine bN_ ?_ _ | refine bD_ ?_ | refine bA_ ?_ _)); exact BK420.out) hb); have n3_ := Aside0.mk (blk_below (g := gb433) (o := .cells #[.int .i64 t425, .int .i64 t426, .int .i64 t427, .int .i64 t428, .int .i64 t429, .int .i64 t430, .int .i64 t431] 30 (0, 0)) (by (with_reducible repeat (first | refine bN_ ?_ _ | refine bD_ ?_ | refine bA_ ?_ _)); exact BK433.out) hb); have n4_ := Aside0.mk (blk_below (g := gb442) (o := .cells #[.int .i64 t434, .int .i64 t435, .int .i64 t436, .int .i64 t437, .int .i64 t438, .int .i64 t439, .int .i64 t440] 30 (0, 0)) (by (with_reducible repeat (first | refine bN_ ?_ _ | refine bD_ ?_ | refine bA_ ?_ _)); exact BK442.out) hb); have n5_ := Aside0.mk (below_step (by repeat (first | (with_reducible first | exact HB.out | apply lA_ | apply lN_ | apply lD_ | refine lS_ ?_ GE420.out | refine lS_ ?_ GE433.out | refine lS_ ?_ GE442.out) | exact HB.out)) hb); clear HO_4; clear HO_7; clear BK420; clear BK433; clear BK442; clear HB; have HO_4 := n0_; have HO_7 := n1_; have BK420 := n2_; have BK433 := n3_; have BK442 := n4_; have HB := n5_; clear n0_ n1_ n2_ n3_ n4_ n5_; (try clear hb); (try clear hb2); (try clear hk); (try clear hi); have hcz62_0 : w61.cell? ⟨gb433, 0, none⟩ = some (.int .i64 t425) := (blk_cell BK433.out 0).trans rfl; have hcz62_1 : w61.cell? ⟨gb433, 1, none⟩ = some (.int .i64 t426) := (blk_cell BK433.out 1).trans rfl; have hcz62_2 : w61.cell? ⟨gb433, 2, none⟩ = some (.int .i64 t427) := (blk_cell BK433.out 2).trans rfl; have hcz62_3 : w61.cell? ⟨gb433, 3, none⟩ = some (.int .i64 t428) := (blk_cell BK433.out 3).trans rfl; have hcz62_4 : w61.cell? ⟨gb433, 4, none⟩ = some (.int .i64 t429) := (blk_cell BK433.out 4).trans rfl; have hcz62_5 : w61.cell? ⟨gb433, 5, none⟩ = some (.int .i64 t430) := (blk_cell BK433.out 5).trans rfl; have hcz62_6 : w61.cell? ⟨gb433, 6, none⟩ = some (.int .i64 t431) := (blk_cell BK433.out 6).trans rfl; have hfz62_0 := blk_frozen BK433.out 0; have hfz62_1 := blk_frozen BK433.out 1; have hfz62_2 := blk_frozen BK433.out 2; have hfz62_3 := blk_frozen BK433.out 3; have hfz62_4 := blk_frozen BK433.out 4; have hfz62_5 := blk_frozen BK433.out 5; have hfz62_6 := blk_frozen BK433.out 6) | (go_at_call 32; (with_reducible refine (skiarealaw51_done.calls kj12 _ _ x4_1 2 t425 t426 t427 t428 t429 t430 t431 t427 t444 _ ?side1 ?side2 A54.out).mono ?_); (case side1 => repeat (first | exact (Kd.R_reads' HO_4.out).2.2 | (with_reducible refine Kd.cA_ ?_ _) | (with_reducible refine Kd.cN_ ?_ _) | (with_reducible refine Kd.cD_ ?_))); (case side2 => exact (Kd.R_reads' HO_4.out).2.1); rintro e w63 ⟨rfl, hb⟩; (try clear A54); have n0_ := Aside0.mk (Kd.R_below (by (with_reducible repeat (first | apply Kd.rA_ | apply Kd.rN_ | apply Kd.rD_)); exact HO_4.out) hb); have n1_ := Aside0.mk (Kd.V_below (by (with_reducible repeat (first | apply Kd.V_alloc | apply Kd.V_drewN | apply Kd.V_drew)); exact HO_7.out) hb); have n2_ := Aside0.mk (blk_below (g := gb420) (o := .cells #[.int .i64 ((rd_T46 l0 x5_1).f0), .int .i64 ((rd_T46 l0 x5_1).f1), .int .i64 ((rd_T46 l0 x5_1).f2), .int .i64 ((rd_T46 l0 x5_1).f3), .int .i64 ((rd_T46 l0 x5_1).f4), .int .i64 ((rd_T46 l0 x5_1).f5), .int .i64 ((rd_T46 l0 x5_1).f6), .bool ((rd_T46 l0 x5_1).f7), .bool ((rd_T46 l0 x5_1).f8)] 46 (0, 0)) (by (with_reducible repeat (first | refine bN_ ?_ _ | refine bD_ ?_ | refine bA_ ?_ _)); exact BK420.out) hb); have n3_ := Aside0.mk (blk_below (g := gb433) (o := .cells #[.int .i64 t425, .int .i64 t426, .int .i64 t427, .int .i64 t428, .int .i64 t429, .int .i64 t430, .int .i64 t431] 30 (0, 0)) (by (with_reducible repeat (first | refine bN_ ?_ _ | refine bD_ ?_ | refine bA_ ?_ _)); exact BK433.out) hb); have n4_ := Aside0.mk (blk_below (g := gb442) (o := .cells #[.int .i64 t434, .int .i64 t435, .int .i64 t436, .int .i64 t437, .int .i64 t438, .int .i64 t439, .int .i64 t440] 30 (0, 0)) (by (with_reducible repeat (first | refine bN_ ?_ _ | refine bD_ ?_ | refine bA_ ?_ _)); exact BK442.out) hb); have n5_ := Aside0.mk (below_step (by repeat (first | (with_reducible first | exact HB.out | apply lA_ | apply lN_ | apply lD_ | refine lS_ ?_ GE420.out | refine lS_ ?_ GE433.out | refine lS_ ?_ GE442.out) | exact HB.out)) hb); clear HO_4; clear HO_7; clear BK420; clear BK433; clear BK442; clear HB; have HO_4 := n0_; have HO_7 := n1_; have BK420 := n2_; have BK433 := n3_; have BK442 := n4_; have HB := n5_; clear n0_ n1_ n2_ n3_ n4_ n5_; (try clear hb); (try clear hb2); (try clear hk); (try clear hi)))
                 go_meet
                 case rel => exact ⟨_, (!t444), (by first | rfl | (simp; done) | (simp [*]; done)), H', ⟨by have := HK1.out; have := HJ12.out; first | omega | exact Nat.le_refl _⟩, ⟨by (with_reducible repeat (first | apply Kd.rA_ | apply Kd.rN_ | apply Kd.rD_)); exact HO_4.out⟩, ⟨by (with_reducible repeat (first | apply Kd.V_alloc | apply Kd.V_drewN | apply Kd.V_drew)); exact HO_7.out⟩, ⟨by (with_reducible repeat (first | refine bN_ ?_ _ | refine bD_ ?_ | refine bA_ ?_ _)); exact BK420.out⟩, ⟨by (with_reducible repeat (first | refine bN_ ?_ _ | refine bD_ ?_ | refine bA_ ?_ _)); exact BK433.out⟩, ⟨by (with_reducible repeat (first | refine bN_ ?_ _ | refine bD_ ?_ | refine bA_ ?_ _)); exact BK442.out⟩, ⟨by repeat (first | (with_reducible first | exact HB.out | apply lA_ | apply lN_ | apply lD_ | refine lS_ ?_ GE420.out | refine lS_ ?_ GE433.out | refine lS_ ?_ GE442.out) | exact HB.out)⟩⟩
                ·
                 replace c53 := Bool.eq_false_iff.mpr c53; subst c53; have H1 : (none) = some r := by rw [if_neg (show ¬ (false = true) by decide)] at H; exact H
                 clear H; have H := H1; clear H1
                 exact absurd H (by simp)
               ·
                rw [if_neg c51] at H
                exact absurd H (by simp)
              ·
               rw [if_neg c50] at H
               exact absurd H (by simp)
             ·
              replace c49 := Bool.eq_false_iff.mpr c49; subst c49; have H1 : (none) = some r := by rw [if_neg (show ¬ (false = true) by decide)] at H; exact H
              clear H; have H := H1; clear H1
              exact absurd H (by simp)
            ·
             rw [if_neg c48] at H
             have c48b0 : (((rd_T46 l0 x5_1).f0) == 3) = false := beq_eq_false_iff_ne.mpr c48; have c48b1 : (((rd_T46 l0 x5_1).f0) != 3) = true := bne_iff_ne.mpr c48; (first | rw [c48b0] | (simp only [i64_w, i32_w]; rw [c48b0]) | skip)
             have H' := Aside0.mk H; clear H; have hnb64 := NB420_433.out; have hnc64 := NB433_420.out; have hnb65 := NB420_442.out; have hnc65 := NB442_420.out; have hcz66_0 : wc.cell? ⟨gb420, 0, none⟩ = some (.int .i64 ((rd_T46 l0 x5_1).f0)) := (blk_cell BK420.out 0).trans rfl; have hcz66_1 : wc.cell? ⟨gb420, 1, none⟩ = some (.int .i64 ((rd_T46 l0 x5_1).f1)) := (blk_cell BK420.out 1).trans rfl; have hcz66_2 : wc.cell? ⟨gb420, 2, none⟩ = some (.int .i64 ((rd_T46 l0 x5_1).f2)) := (blk_cell BK420.out 2).trans rfl; have hcz66_3 : wc.cell? ⟨gb420, 3, none⟩ = some (.int .i64 ((rd_T46 l0 x5_1).f3)) := (blk_cell BK420.out 3).trans rfl; have hcz66_4 : wc.cell? ⟨gb420, 4, none⟩ = some (.int .i64 ((rd_T46 l0 x5_1).f4)) := (blk_cell BK420.out 4).trans rfl; have hcz66_5 : wc.cell? ⟨gb420, 5, none⟩ = some (.int .i64 ((rd_T46 l0 x5_1).f5)) := (blk_cell BK420.out 5).trans rfl; have hcz66_6 : wc.cell? ⟨gb420, 6, none⟩ = some (.int .i64 ((rd_T46 l0 x5_1).f6)) := (blk_cell BK420.out 6).trans rfl; have hcz66_7 : wc.cell? ⟨gb420, 7, none⟩ = some (.bool ((rd_T46 l0 x5_1).f7)) := (blk_cell BK420.out 7).trans rfl; have hcz66_8 : wc.cell? ⟨gb420, 8, none⟩ = some (.bool ((rd_T46 l0 x5_1).f8)) := (blk_cell BK420.out 8).trans rfl; have hfz66_0 := blk_frozen BK420.out 0; have hfz66_1 := blk_frozen BK420.out 1; have hfz66_2 := blk_frozen BK420.out 2; have hfz66_3 := blk_frozen BK420.out 3; have hfz66_4 := blk_frozen BK420.out 4; have hfz66_5 := blk_frozen BK420.out 5; have hfz66_6 := blk_frozen BK420.out 6; have hfz66_7 := blk_frozen BK420.out 7; have hfz66_8 := blk_frozen BK420.out 8; go_wp2
             go_meet
             case rel => exact ⟨_, (false), (by first | rfl | (simp; done) | (simp [*]; done)), H', ⟨by have := HK1.out; have := HJ12.out; first | omega | exact Nat.le_refl _⟩, ⟨by (with_reducible repeat (first | apply Kd.rA_ | apply Kd.rN_ | apply Kd.rD_)); exact HO_4.out⟩, ⟨by (with_reducible repeat (first | apply Kd.V_alloc | apply Kd.V_drewN | apply Kd.V_drew)); exact HO_7.out⟩, ⟨by (with_reducible repeat (first | refine bN_ ?_ _ | refine bD_ ?_ | refine bA_ ?_ _)); exact BK420.out⟩, ⟨by (with_reducible repeat (first | refine bN_ ?_ _ | refine bD_ ?_ | refine bA_ ?_ _)); exact BK433.out⟩, ⟨by (with_reducible repeat (first | refine bN_ ?_ _ | refine bD_ ?_ | refine bA_ ?_ _)); exact BK442.out⟩, ⟨by repeat (first | (with_reducible first | exact HB.out | apply lA_ | apply lN_ | apply lD_ | refine lS_ ?_ GE420.out | refine lS_ ?_ GE433.out | refine lS_ ?_ GE442.out) | exact HB.out)⟩⟩
           case rest =>
            clear HC47; try clear c1
            try clear c2
            try clear p2
            try clear c3
            try clear c4
            try clear c4b0
            try clear c4b1
            try clear p4
            try clear q4
            try clear hx4
            try clear c5
            try clear c6
            try clear p6
            try clear c7
            try clear c7b0
            try clear c8
            try clear c8b0
            try clear c10
            try clear c11
            try clear c23
            try clear c29
            try clear c30
            try clear c31
            try clear c32
            try clear c33
            try clear c33b0
            try clear c33b1
            try clear c34
            try clear c35
            try clear c36
            try clear c38
            try clear c41
            try clear p41
            try clear q41
            try clear hx41
            try clear c42
            try clear c44
            try clear c46
            try clear c48
            try clear c48b0
            try clear c48b1
            try clear c49
            try clear c50
            try clear c50b0
            try clear c51
            try clear c51b0
            try clear c51b1
            try clear c53
            try clear c55
            try clear c56
            try clear c58
            try clear c64
            try clear p64
            try clear c65
            try clear hcz15_0
            try clear hcz15_1
            try clear hcz15_2
            try clear hcz15_3
            try clear hcz15_4
            try clear hcz15_5
            try clear hcz15_6
            try clear hcz15_7
            try clear hcz15_8
            try clear hcz17_0
            try clear hcz17_1
            try clear hcz17_2
            try clear hcz17_3
            try clear hcz17_4
            try clear hcz17_5
            try clear hcz17_6
            try clear hcz17_7
            try clear hcz17_8
            try clear hcz20_0
            try clear hcz20_1
            try clear hcz20_2
            try clear hcz20_3
            try clear hcz20_4
            try clear hcz20_5
            try clear hcz20_6
            try clear hcz20_7
            try clear hcz20_8
            try clear hcz24_0
            try clear hcz24_1
            try clear hcz24_2
            try clear hcz24_3
            try clear hcz24_4
            try clear hcz24_5
            try clear hcz24_6
            try clear hcz25_0
            try clear hcz25_1
            try clear hcz25_2
            try clear hcz25_3
            try clear hcz25_4
            try clear hcz25_5
            try clear hcz25_6
            try clear hcz25_7
            try clear hcz25_8
            try clear hcz31_0
            try clear hcz31_1
            try clear hcz31_2
            try clear hcz31_3
            try clear hcz31_4
            try clear hcz31_5
            try clear hcz31_6
            try clear hcz37_0
            try clear hcz37_1
            try clear hcz37_2
            try clear hcz37_3
            try clear hcz37_4
            try clear hcz37_5
            try clear hcz37_6
            try clear hcz39_0
            try clear hcz39_1
            try clear hcz39_2
            try clear hcz39_3
            try clear hcz39_4
            try clear hcz39_5
            try clear hcz39_6
            try clear hcz39_7
            try clear hcz39_8
            try clear hcz40_0
            try clear hcz40_1
            try clear hcz40_2
            try clear hcz40_3
            try clear hcz40_4
            try clear hcz40_5
            try clear hcz40_6
            try clear hcz43_0
            try clear hcz43_1
            try clear hcz43_2
            try clear hcz43_3
            try clear hcz43_4
            try clear hcz43_5
            try clear hcz43_6
            try clear hcz45_0
            try clear hcz45_1
            try clear hcz45_2
            try clear hcz45_3
            try clear hcz45_4
            try clear hcz45_5
            try clear hcz45_6
            try clear hcz45_7
            try clear hcz45_8
            try clear hcz57_0
            try clear hcz57_1
            try clear hcz57_2
            try clear hcz57_3
            try clear hcz57_4
            try clear hcz57_5
            try clear hcz57_6
            try clear hcz57_7
            try clear hcz57_8
            try clear hcz59_0
            try clear hcz59_1
            try clear hcz59_2
            try clear hcz59_3
            try clear hcz59_4
            try clear hcz59_5
            try clear hcz59_6
            try clear hcz62_0
            try clear hcz62_1
            try clear hcz62_2
            try clear hcz62_3
            try clear hcz62_4
            try clear hcz62_5
            try clear hcz62_6
            try clear hcz66_0
            try clear hcz66_1
            try clear hcz66_2
            try clear hcz66_3
            try clear hcz66_4
            try clear hcz66_5
            try clear hcz66_6
            try clear hcz66_7
            try clear hcz66_8
            try clear hfz15_0
            try clear hfz15_1
            try clear hfz15_2
            try clear hfz15_3
            try clear hfz15_4
            try clear hfz15_5
            try clear hfz15_6
            try clear hfz15_7
            try clear hfz15_8
            try clear hfz17_0
            try clear hfz17_1
            try clear hfz17_2
            try clear hfz17_3
            try clear hfz17_4
            try clear hfz17_5
            try clear hfz17_6
            try clear hfz17_7
            try clear hfz17_8
            try clear hfz20_0
            try clear hfz20_1
            try clear hfz20_2
            try clear hfz20_3
            try clear hfz20_4
            try clear hfz20_5
            try clear hfz20_6
            try clear hfz20_7
            try clear hfz20_8
            try clear hfz24_0
            try clear hfz24_1
            try clear hfz24_2
            try clear hfz24_3
            try clear hfz24_4
            try clear hfz24_5
            try clear hfz24_6
            try clear hfz25_0
            try clear hfz25_1
            try clear hfz25_2
            try clear hfz25_3
            try clear hfz25_4
            try clear hfz25_5
            try clear hfz25_6
            try clear hfz25_7
            try clear hfz25_8
            try clear hfz31_0
            try clear hfz31_1
            try clear hfz31_2
            try clear hfz31_3
            try clear hfz31_4
            try clear hfz31_5
            try clear hfz31_6
            try clear hfz37_0
            try clear hfz37_1
            try clear hfz37_2
            try clear hfz37_3
            try clear hfz37_4
            try clear hfz37_5
            try clear hfz37_6
            try clear hfz39_0
            try clear hfz39_1
            try clear hfz39_2
            try clear hfz39_3
            try clear hfz39_4
            try clear hfz39_5
            try clear hfz39_6
            try clear hfz39_7
            try clear hfz39_8
            try clear hfz40_0
            try clear hfz40_1
            try clear hfz40_2
            try clear hfz40_3
            try clear hfz40_4
            try clear hfz40_5
            try clear hfz40_6
            try clear hfz43_0
            try clear hfz43_1
            try clear hfz43_2
            try clear hfz43_3
            try clear hfz43_4
            try clear hfz43_5
            try clear hfz43_6
            try clear hfz45_0
            try clear hfz45_1
            try clear hfz45_2
            try clear hfz45_3
            try clear hfz45_4
            try clear hfz45_5
            try clear hfz45_6
            try clear hfz45_7
            try clear hfz45_8
            try clear hfz57_0
            try clear hfz57_1
            try clear hfz57_2
            try clear hfz57_3
            try clear hfz57_4
            try clear hfz57_5
            try clear hfz57_6
            try clear hfz57_7
            try clear hfz57_8
            try clear hfz59_0
            try clear hfz59_1
            try clear hfz59_2
            try clear hfz59_3
            try clear hfz59_4
            try clear hfz59_5
            try clear hfz59_6
            try clear hfz62_0
            try clear hfz62_1
            try clear hfz62_2
            try clear hfz62_3
            try clear hfz62_4
            try clear hfz62_5
            try clear hfz62_6
            try clear hfz66_0
            try clear hfz66_1
            try clear hfz66_2
            try clear hfz66_3
            try clear hfz66_4
            try clear hfz66_5
            try clear hfz66_6
            try clear hfz66_7
            try clear hfz66_8
            try clear hx419_0
            try clear hx419_1
            try clear hx419_2
            try clear hx419_3
            try clear hx419_4
            try clear hx419_5
            try clear hx419_6
            try clear hx419_7
            try clear hx419_8
            try clear p2
            try clear p4
            try clear p41
            try clear p419
            try clear p6
            try clear q4
            try clear q41
            try clear q419
            obtain ⟨kq, x101_46, rfl, HA, HJ46, HO_4, HO_7, BK420, BK433, BK442, HB⟩ := hcut
            cases kq with
            | zero => exact absurd HA.out (by simp [skiarealaw51_BlastCleared.j2])
            | succ kj46 =>
             have H := HA.out; clear HA; simp only [skiarealaw51_BlastCleared.j2] at H
             by_cases c67 : x101_46 = true
             ·
              subst c67; have H1 : (none) = some r := by rw [if_pos rfl] at H; exact H
              clear H; have H := H1; clear H1
              exact absurd H (by simp)
             ·
              replace c67 := Bool.eq_false_iff.mpr c67; subst c67; have H1 : (if ((rd_T46 l0 x5_1).f0) = 3 then (if x4_1.length < 2199023255552 then (skiarealaw51_BlastCleared.l0 kj46 l0 t421 (x4_1 ++ [(⟨((rd_T46 l0 x5_1).f0), ((rd_T46 l0 x5_1).f1), ((rd_T46 l0 x5_1).f2), ((rd_T46 l0 x5_1).f3), ((rd_T46 l0 x5_1).f4), ((rd_T46 l0 x5_1).f5), ((rd_T46 l0 x5_1).f6), ((rd_T46 l0 x5_1).f7), ((rd_T46 l0 x5_1).f8)⟩ : S46)]) (wrap64 (x5_1 + 1))) else (none)) else (if t437 = 3 then (none) else (if t437 = 4 then (none) else (if x4_1.length < 2199023255552 then (skiarealaw51_BlastCleared.l0 kj46 l0 t421 (x4_1 ++ [(⟨((rd_T46 l0 x5_1).f0), ((rd_T46 l0 x5_1).f1), ((rd_T46 l0 x5_1).f2), ((rd_T46 l0 x5_1).f3), ((rd_T46 l0 x5_1).f4), ((rd_T46 l0 x5_1).f5), ((rd_T46 l0 x5_1).f6), ((rd_T46 l0 x5_1).f7), ((rd_T46 l0 x5_1).f8)⟩ : S46)]) (wrap64 (x5_1 + 1))) else (none))))) = some r := by rw [if_neg (show ¬ (false = true) by decide)] at H; exact H
              clear H; have H := H1; clear H1; by_cases c68 : ((rd_T46 l0 x5_1).f0) = 3
              ·
               rw [if_pos c68] at H
               have c68b0 : (((rd_T46 l0 x5_1).f0) == 3) = true := beq_iff_eq.mpr c68; have c68b1 : (((rd_T46 l0 x5_1).f0) != 3) = false := bne_eq_false_iff_eq.mpr c68; clear c68; by_cases c69 : x4_1.length < 2199023255552
               ·
                rw [if_pos c69] at H
                have LMc69 := Aside0.mk c69; clear c69; obtain ⟨y445, hy445⟩ : ∃ y_ : List (S46), y_ = (x4_1 ++ [(⟨((rd_T46 l0 x5_1).f0), ((rd_T46 l0 x5_1).f1), ((rd_T46 l0 x5_1).f2), ((rd_T46 l0 x5_1).f3), ((rd_T46 l0 x5_1).f4), ((rd_T46 l0 x5_1).f5), ((rd_T46 l0 x5_1).f6), ((rd_T46 l0 x5_1).f7), ((rd_T46 l0 x5_1).f8)⟩ : S46)]) := ⟨_, rfl⟩; replace H : (skiarealaw51_BlastCleared.l0 kj46 l0 t421 y445 (wrap64 (x5_1 + 1))) = some r := by first | (rw [hy445]; with_reducible exact H) | (have H2_ := (Option.bind_some _ _).symm.trans H; rw [hy445]; with_reducible exact H2_) | (have H2_ := (Option.bind_some _ _).symm.trans H; with_reducible exact H2_) | with_reducible exact H | (rw [hy445]; exact H) | exact H
                have Ny445 := Aside0.mk hy445; clear hy445; have H' := Aside0.mk H; clear H; have hnb70 := NB420_433.out; have hnc70 := NB433_420.out; have hnb71 := NB420_442.out; have hnc71 := NB442_420.out; have hcz72_0 : wc.cell? ⟨gb420, 0, none⟩ = some (.int .i64 ((rd_T46 l0 x5_1).f0)) := (blk_cell BK420.out 0).trans rfl; have hcz72_1 : wc.cell? ⟨gb420, 1, none⟩ = some (.int .i64 ((rd_T46 l0 x5_1).f1)) := (blk_cell BK420.out 1).trans rfl; have hcz72_2 : wc.cell? ⟨gb420, 2, none⟩ = some (.int .i64 ((rd_T46 l0 x5_1).f2)) := (blk_cell BK420.out 2).trans rfl; have hcz72_3 : wc.cell? ⟨gb420, 3, none⟩ = some (.int .i64 ((rd_T46 l0 x5_1).f3)) := (blk_cell BK420.out 3).trans rfl; have hcz72_4 : wc.cell? ⟨gb420, 4, none⟩ = some (.int .i64 ((rd_T46 l0 x5_1).f4)) := (blk_cell BK420.out 4).trans rfl; have hcz72_5 : wc.cell? ⟨gb420, 5, none⟩ = some (.int .i64 ((rd_T46 l0 x5_1).f5)) := (blk_cell BK420.out 5).trans rfl; have hcz72_6 : wc.cell? ⟨gb420, 6, none⟩ = some (.int .i64 ((rd_T46 l0 x5_1).f6)) := (blk_cell BK420.out 6).trans rfl; have hcz72_7 : wc.cell? ⟨gb420, 7, none⟩ = some (.bool ((rd_T46 l0 x5_1).f7)) := (blk_cell BK420.out 7).trans rfl; have hcz72_8 : wc.cell? ⟨gb420, 8, none⟩ = some (.bool ((rd_T46 l0 x5_1).f8)) := (blk_cell BK420.out 8).trans rfl; have hfz72_0 := blk_frozen BK420.out 0; have hfz72_1 := blk_frozen BK420.out 1; have hfz72_2 := blk_frozen BK420.out 2; have hfz72_3 := blk_frozen BK420.out 3; have hfz72_4 := blk_frozen BK420.out 4; have hfz72_5 := blk_frozen BK420.out 5; have hfz72_6 := blk_frozen BK420.out 6; have hfz72_7 := blk_frozen BK420.out 7; have hfz72_8 := blk_frozen BK420.out 8
                go_wp2_with (first | ((with_reducible refine gate_builtin (b := .append) (xs := #[.tmp 116, .tmp 118]) rfl ?_); at_builtin; refine Kd.R_append k46 (w0 := w) w.heap.size rfl (.tmp 116) (.tmp 118) 44 46 (.agg #[(.int .i64 0), (.int .i64 0), (.int .i64 0), (.int .i64 0), (.int .i64 0), (.int .i64 0), (.int .i64 0), (.bool false), (.bool false)]) 64 rfl Try.underlying44 info46 rfl (by decide) (by omega) u4 x4_1 (⟨((rd_T46 l0 x5_1).f0), ((rd_T46 l0 x5_1).f1), ((rd_T46 l0 x5_1).f2), ((rd_T46 l0 x5_1).f3), ((rd_T46 l0 x5_1).f4), ((rd_T46 l0 x5_1).f5), ((rd_T46 l0 x5_1).f6), ((rd_T46 l0 x5_1).f7), ((rd_T46 l0 x5_1).f8)⟩ : S46) [.int .i64 ((rd_T46 l0 x5_1).f0), .int .i64 ((rd_T46 l0 x5_1).f1), .int .i64 ((rd_T46 l0 x5_1).f2), .int .i64 ((rd_T46 l0 x5_1).f3), .int .i64 ((rd_T46 l0 x5_1).f4), .int .i64 ((rd_T46 l0 x5_1).f5), .int .i64 ((rd_T46 l0 x5_1).f6), .bool ((rd_T46 l0 x5_1).f7), .bool ((rd_T46 l0 x5_1).f8)] (fun k_ => k_ ≠ gb420) (fun _ => False) rfl rfl ?aP (fun _ hk => hk.elim) ?aF ?aO ?aB ?aS ?aL ?_; (case aP => exact k46_mkM _ _ _ (⟨((rd_T46 l0 x5_1).f0), ((rd_T46 l0 x5_1).f1), ((rd_T46 l0 x5_1).f2), ((rd_T46 l0 x5_1).f3), ((rd_T46 l0 x5_1).f4), ((rd_T46 l0 x5_1).f5), ((rd_T46 l0 x5_1).f6), ((rd_T46 l0 x5_1).f7), ((rd_T46 l0 x5_1).f8)⟩ : S46)); (case aB => exact (by repeat (first | (with_reducible first | exact HB.out | apply lA_ | apply lN_ | apply lD_ | refine lS_ ?_ GE420.out | refine lS_ ?_ GE433.out | refine lS_ ?_ GE442.out) | exact HB.out))); (case aF => exact (fun k_ hk => Kd.freshB (g := gb420) (o := .cells #[.int .i64 ((rd_T46 l0 x5_1).f0), .int .i64 ((rd_T46 l0 x5_1).f1), .int .i64 ((rd_T46 l0 x5_1).f2), .int .i64 ((rd_T46 l0 x5_1).f3), .int .i64 ((rd_T46 l0 x5_1).f4), .int .i64 ((rd_T46 l0 x5_1).f5), .int .i64 ((rd_T46 l0 x5_1).f6), .bool ((rd_T46 l0 x5_1).f7), .bool ((rd_T46 l0 x5_1).f8)] 46 (0, 0)) (by (with_reducible repeat (first | refine bN_ ?_ _ | refine bD_ ?_ | refine bA_ ?_ _)); exact BK420.out) k_ hk)); (case aO => exact (by (with_reducible repeat (first | apply Kd.rA_ | apply Kd.rN_ | apply Kd.rD_)); exact HO_4.out)); (case aS => exact (below_size (by repeat (first | (with_reducible first | exact HB.out | apply lA_ | apply lN_ | apply lD_ | refine lS_ ?_ GE420.out | refine lS_ ?_ GE433.out | refine lS_ ?_ GE442.out) | exact HB.out)))); (case aL => have := LMc69.out; omega); intro v446 w73 ho hb hg hat; rw [← Ny445.out] at ho; have n0_ := Aside0.mk (Kd.V_afterv (ok := (fun k_ => k_ ≠ gb420 ∧ k_ ≠ gb433 ∧ k_ ≠ gb442)) (by (with_reducible repeat (first | apply Kd.V_alloc | apply Kd.V_drewN | apply Kd.V_drew)); exact Kd.V_mono HO_7.out (fun _ hk => ⟨⟨hk.2.1, ⟨hk.2.2.1, hk.2.2.2⟩⟩, hk.1⟩)) hg hat); have n1_ := Aside0.mk (blk_grown (g := gb420) (o := .cells #[.int .i64 ((rd_T46 l0 x5_1).f0), .int .i64 ((rd_T46 l0 x5_1).f1), .int .i64 ((rd_T46 l0 x5_1).f2), .int .i64 ((rd_T46 l0 x5_1).f3), .int .i64 ((rd_T46 l0 x5_1).f4), .int .i64 ((rd_T46 l0 x5_1).f5), .int .i64 ((rd_T46 l0 x5_1).f6), .bool ((rd_T46 l0 x5_1).f7), .bool ((rd_T46 l0 x5_1).f8)] 46 (0, 0)) (by (with_reducible repeat (first | refine bN_ ?_ _ | refine bD_ ?_ | refine bA_ ?_ _)); exact BK420.out) hg (Kd.R_away HO_4.out (fun _ hk => hk))); have n2_ := Aside0.mk (blk_grown (g := gb433) (o := .cells #[.int .i64 t425, .int .i64 t426, .int .i64 t427, .int .i64 t428, .int .i64 t429, .int .i64 t430, .int .i64 t431] 30 (0, 0)) (by (with_reducible repeat (first | refine bN_ ?_ _ | refine bD_ ?_ | refine bA_ ?_ _)); exact BK433.out) hg (Kd.R_ne HO_4.out BK433.out (by decide))); have n3_ := Aside0.mk (blk_grown (g := gb442) (o := .cells #[.int .i64 t434, .int .i64 t435, .int .i64 t436, .int .i64 t437, .int .i64 t438, .int .i64 t439, .int .i64 t440] 30 (0, 0)) (by (with_reducible repeat (first | refine bN_ ?_ _ | refine bD_ ?_ | refine bA_ ?_ _)); exact BK442.out) hg (Kd.R_ne HO_4.out BK442.out (by decide))); have n4_ := Aside0.mk (hb); have n5_ := Aside0.mk (ho); clear HO_7; clear BK420; clear BK433; clear BK442; clear HB; clear HO_4; have HO_7 := n0_; have BK420 := n1_; have BK433 := n2_; have BK442 := n3_; have HB := n4_; have HO447 := n5_; clear n0_ n1_ n2_ n3_ n4_ n5_; clear ho hb hg hat))
                go_roundg kj46
                case measure => have := HK1.out; have := HJ12.out; have := HJ46.out; omega
                case rel => exact ⟨(t421), (y445), (wrap64 (x5_1 + 1)), (by first | rfl | (simp; done) | (simp [*]; done)), H', ⟨by have := HK1.out; have := HJ12.out; have := HJ46.out; omega⟩, ⟨by (with_reducible repeat (first | apply Kd.V_alloc | apply Kd.V_drewN | apply Kd.V_drew)); exact Kd.V_mono HO_7.out (fun _ hk => hk.2)⟩, ⟨by (with_reducible repeat (first | apply Kd.rA_ | apply Kd.rN_ | apply Kd.rD_)); exact Kd.R_mono HO447.out (fun _ hk => trivial)⟩, ⟨by repeat (first | (with_reducible first | exact HB.out | apply lA_ | apply lN_ | apply lD_ | refine lS_ ?_ GE420.out | refine lS_ ?_ GE433.out | refine lS_ ?_ GE442.out) | exact HB.out)⟩⟩
               ·
                rw [if_neg c69] at H
                exact absurd H (by simp)
              ·
               rw [if_neg c68] at H
               have c68b0 : (((rd_T46 l0 x5_1).f0) == 3) = false := beq_eq_false_iff_ne.mpr c68; have c68b1 : (((rd_T46 l0 x5_1).f0) != 3) = true := bne_iff_ne.mpr c68; by_cases c74 : t437 = 3
               ·
                rw [if_pos c74] at H
                exact absurd H (by simp)
               ·
                rw [if_neg c74] at H
                have c74b0 : (t437 == 3) = false := beq_eq_false_iff_ne.mpr c74; have c74b1 : (t437 != 3) = true := bne_iff_ne.mpr c74; by_cases c75 : t437 = 4
                ·
                 rw [if_pos c75] at H
                 exact absurd H (by simp)
                ·
                 rw [if_neg c75] at H
                 have c75b0 : (t437 == 4) = false := beq_eq_false_iff_ne.mpr c75; have c75b1 : (t437 != 4) = true := bne_iff_ne.mpr c75; by_cases c76 : x4_1.length < 2199023255552
                 ·
                  rw [if_pos c76] at H
                  have LMc76 := Aside0.mk c76; clear c76; obtain ⟨y448, hy448⟩ : ∃ y_ : List (S46), y_ = (x4_1 ++ [(⟨((rd_T46 l0 x5_1).f0), ((rd_T46 l0 x5_1).f1), ((rd_T46 l0 x5_1).f2), ((rd_T46 l0 x5_1).f3), ((rd_T46 l0 x5_1).f4), ((rd_T46 l0 x5_1).f5), ((rd_T46 l0 x5_1).f6), ((rd_T46 l0 x5_1).f7), ((rd_T46 l0 x5_1).f8)⟩ : S46)]) := ⟨_, rfl⟩; replace H : (skiarealaw51_BlastCleared.l0 kj46 l0 t421 y448 (wrap64 (x5_1 + 1))) = some r := by first | (rw [hy448]; with_reducible exact H) | (have H2_ := (Option.bind_some _ _).symm.trans H; rw [hy448]; with_reducible exact H2_) | (have H2_ := (Option.bind_some _ _).symm.trans H; with_reducible exact H2_) | with_reducible exact H | (rw [hy448]; exact H) | exact H
                  have Ny448 := Aside0.mk hy448; clear hy448; have H' := Aside0.mk H; clear H; have hnb77 := NB420_433.out; have hnc77 := NB433_420.out; have hnb78 := NB420_442.out; have hnc78 := NB442_420.out; have hcz79_0 : wc.cell? ⟨gb420, 0, none⟩ = some (.int .i64 ((rd_T46 l0 x5_1).f0)) := (blk_cell BK420.out 0).trans rfl; have hcz79_1 : wc.cell? ⟨gb420, 1, none⟩ = some (.int .i64 ((rd_T46 l0 x5_1).f1)) := (blk_cell BK420.out 1).trans rfl; have hcz79_2 : wc.cell? ⟨gb420, 2, none⟩ = some (.int .i64 ((rd_T46 l0 x5_1).f2)) := (blk_cell BK420.out 2).trans rfl; have hcz79_3 : wc.cell? ⟨gb420, 3, none⟩ = some (.int .i64 ((rd_T46 l0 x5_1).f3)) := (blk_cell BK420.out 3).trans rfl; have hcz79_4 : wc.cell? ⟨gb420, 4, none⟩ = some (.int .i64 ((rd_T46 l0 x5_1).f4)) := (blk_cell BK420.out 4).trans rfl; have hcz79_5 : wc.cell? ⟨gb420, 5, none⟩ = some (.int .i64 ((rd_T46 l0 x5_1).f5)) := (blk_cell BK420.out 5).trans rfl; have hcz79_6 : wc.cell? ⟨gb420, 6, none⟩ = some (.int .i64 ((rd_T46 l0 x5_1).f6)) := (blk_cell BK420.out 6).trans rfl; have hcz79_7 : wc.cell? ⟨gb420, 7, none⟩ = some (.bool ((rd_T46 l0 x5_1).f7)) := (blk_cell BK420.out 7).trans rfl; have hcz79_8 : wc.cell? ⟨gb420, 8, none⟩ = some (.bool ((rd_T46 l0 x5_1).f8)) := (blk_cell BK420.out 8).trans rfl; have hfz79_0 := blk_frozen BK420.out 0; have hfz79_1 := blk_frozen BK420.out 1; have hfz79_2 := blk_frozen BK420.out 2; have hfz79_3 := blk_frozen BK420.out 3; have hfz79_4 := blk_frozen BK420.out 4; have hfz79_5 := blk_frozen BK420.out 5; have hfz79_6 := blk_frozen BK420.out 6; have hfz79_7 := blk_frozen BK420.out 7; have hfz79_8 := blk_frozen BK420.out 8; have hnb80 := NB442_433.out; have hnc80 := NB433_442.out; have hcz81_0 : wc.cell? ⟨gb442, 0, none⟩ = some (.int .i64 t434) := (blk_cell BK442.out 0).trans rfl; have hcz81_1 : wc.cell? ⟨gb442, 1, none⟩ = some (.int .i64 t435) := (blk_cell BK442.out 1).trans rfl; have hcz81_2 : wc.cell? ⟨gb442, 2, none⟩ = some (.int .i64 t436) := (blk_cell BK442.out 2).trans rfl; have hcz81_3 : wc.cell? ⟨gb442, 3, none⟩ = some (.int .i64 t437) := (blk_cell BK442.out 3).trans rfl; have hcz81_4 : wc.cell? ⟨gb442, 4, none⟩ = some (.int .i64 t438) := (blk_cell BK442.out 4).trans rfl; have hcz81_5 : wc.cell? ⟨gb442, 5, none⟩ = some (.int .i64 t439) := (blk_cell BK442.out 5).trans rfl; have hcz81_6 : wc.cell? ⟨gb442, 6, none⟩ = some (.int .i64 t440) := (blk_cell BK442.out 6).trans rfl; have hfz81_0 := blk_frozen BK442.out 0; have hfz81_1 := blk_frozen BK442.out 1; have hfz81_2 := blk_frozen BK442.out 2; have hfz81_3 := blk_frozen BK442.out 3; have hfz81_4 := blk_frozen BK442.out 4; have hfz81_5 := blk_frozen BK442.out 5; have hfz81_6 := blk_frozen BK442.out 6
                  go_wp2_with (first | ((with_reducible refine gate_builtin (b := .append) (xs := #[.tmp 116, .tmp 118]) rfl ?_); at_builtin; refine Kd.R_append k46 (w0 := w) w.heap.size rfl (.tmp 116) (.tmp 118) 44 46 (.agg #[(.int .i64 0), (.int .i64 0), (.int .i64 0), (.int .i64 0), (.int .i64 0), (.int .i64 0), (.int .i64 0), (.bool false), (.bool false)]) 64 rfl Try.underlying44 info46 rfl (by decide) (by omega) u4 x4_1 (⟨((rd_T46 l0 x5_1).f0), ((rd_T46 l0 x5_1).f1), ((rd_T46 l0 x5_1).f2), ((rd_T46 l0 x5_1).f3), ((rd_T46 l0 x5_1).f4), ((rd_T46 l0 x5_1).f5), ((rd_T46 l0 x5_1).f6), ((rd_T46 l0 x5_1).f7), ((rd_T46 l0 x5_1).f8)⟩ : S46) [.int .i64 ((rd_T46 l0 x5_1).f0), .int .i64 ((rd_T46 l0 x5_1).f1), .int .i64 ((rd_T46 l0 x5_1).f2), .int .i64 ((rd_T46 l0 x5_1).f3), .int .i64 ((rd_T46 l0 x5_1).f4), .int .i64 ((rd_T46 l0 x5_1).f5), .int .i64 ((rd_T46 l0 x5_1).f6), .bool ((rd_T46 l0 x5_1).f7), .bool ((rd_T46 l0 x5_1).f8)] (fun k_ => k_ ≠ gb420) (fun _ => False) rfl rfl ?aP (fun _ hk => hk.elim) ?aF ?aO ?aB ?aS ?aL ?_; (case aP => exact k46_mkM _ _ _ (⟨((rd_T46 l0 x5_1).f0), ((rd_T46 l0 x5_1).f1), ((rd_T46 l0 x5_1).f2), ((rd_T46 l0 x5_1).f3), ((rd_T46 l0 x5_1).f4), ((rd_T46 l0 x5_1).f5), ((rd_T46 l0 x5_1).f6), ((rd_T46 l0 x5_1).f7), ((rd_T46 l0 x5_1).f8)⟩ : S46)); (case aB => exact (by repeat (first | (with_reducible first | exact HB.out | apply lA_ | apply lN_ | apply lD_ | refine lS_ ?_ GE420.out | refine lS_ ?_ GE433.out | refine lS_ ?_ GE442.out) | exact HB.out))); (case aF => exact (fun k_ hk => Kd.freshB (g := gb420) (o := .cells #[.int .i64 ((rd_T46 l0 x5_1).f0), .int .i64 ((rd_T46 l0 x5_1).f1), .int .i64 ((rd_T46 l0 x5_1).f2), .int .i64 ((rd_T46 l0 x5_1).f3), .int .i64 ((rd_T46 l0 x5_1).f4), .int .i64 ((rd_T46 l0 x5_1).f5), .int .i64 ((rd_T46 l0 x5_1).f6), .bool ((rd_T46 l0 x5_1).f7), .bool ((rd_T46 l0 x5_1).f8)] 46 (0, 0)) (by (with_reducible repeat (first | refine bN_ ?_ _ | refine bD_ ?_ | refine bA_ ?_ _)); exact BK420.out) k_ hk)); (case aO => exact (by (with_reducible repeat (first | apply Kd.rA_ | apply Kd.rN_ | apply Kd.rD_)); exact HO_4.out)); (case aS => exact (below_size (by repeat (first | (with_reducible first | exact HB.out | apply lA_ | apply lN_ | apply lD_ | refine lS_ ?_ GE420.out | refine lS_ ?_ GE433.out | refine lS_ ?_ GE442.out) | exact HB.out)))); (case aL => have := LMc76.out; omega); intro v449 w82 ho hb hg hat; rw [← Ny448.out] at ho; have n0_ := Aside0.mk (Kd.V_afterv (ok := (fun k_ => k_ ≠ gb420 ∧ k_ ≠ gb433 ∧ k_ ≠ gb442)) (by (with_reducible repeat (first | apply Kd.V_alloc | apply Kd.V_drewN | apply Kd.V_drew)); exact Kd.V_mono HO_7.out (fun _ hk => ⟨⟨hk.2.1, ⟨hk.2.2.1, hk.2.2.2⟩⟩, hk.1⟩)) hg hat); have n1_ := Aside0.mk (blk_grown (g := gb420) (o := .cells #[.int .i64 ((rd_T46 l0 x5_1).f0), .int .i64 ((rd_T46 l0 x5_1).f1), .int .i64 ((rd_T46 l0 x5_1).f2), .int .i64 ((rd_T46 l0 x5_1).f3), .int .i64 ((rd_T46 l0 x5_1).f4), .int .i64 ((rd_T46 l0 x5_1).f5), .int .i64 ((rd_T46 l0 x5_1).f6), .bool ((rd_T46 l0 x5_1).f7), .bool ((rd_T46 l0 x5_1).f8)] 46 (0, 0)) (by (with_reducible repeat (first | refine bN_ ?_ _ | refine bD_ ?_ | refine bA_ ?_ _)); exact BK420.out) hg (Kd.R_away HO_4.out (fun _ hk => hk))); have n2_ := Aside0.mk (blk_grown (g := gb433) (o := .cells #[.int .i64 t425, .int .i64 t426, .int .i64 t427, .int .i64 t428, .int .i64 t429, .int .i64 t430, .int .i64 t431] 30 (0, 0)) (by (with_reducible repeat (first | refine bN_ ?_ _ | refine bD_ ?_ | refine bA_ ?_ _)); exact BK433.out) hg (Kd.R_ne HO_4.out BK433.out (by decide))); have n3_ := Aside0.mk (blk_grown (g := gb442) (o := .cells #[.int .i64 t434, .int .i64 t435, .int .i64 t436, .int .i64 t437, .int .i64 t438, .int .i64 t439, .int .i64 t440] 30 (0, 0)) (by (with_reducible repeat (first | refine bN_ ?_ _ | refine bD_ ?_ | refine bA_ ?_ _)); exact BK442.out) hg (Kd.R_ne HO_4.out BK442.out (by decide))); have n4_ := Aside0.mk (hb); have n5_ := Aside0.mk (ho); clear HO_7; clear BK420; clear BK433; clear BK442; clear HB; clear HO_4; have HO_7 := n0_; have BK420 := n1_; have BK433 := n2_; have BK442 := n3_; have HB := n4_; have HO450 := n5_; clear n0_ n1_ n2_ n3_ n4_ n5_; clear ho hb hg hat))
                  go_roundg kj46
                  case measure => have := HK1.out; have := HJ12.out; have := HJ46.out; omega
                  case rel => exact ⟨(t421), (y448), (wrap64 (x5_1 + 1)), (by first | rfl | (simp; done) | (simp [*]; done)), H', ⟨by have := HK1.out; have := HJ12.out; have := HJ46.out; omega⟩, ⟨by (with_reducible repeat (first | apply Kd.V_alloc | apply Kd.V_drewN | apply Kd.V_drew)); exact Kd.V_mono HO_7.out (fun _ hk => hk.2)⟩, ⟨by (with_reducible repeat (first | apply Kd.rA_ | apply Kd.rN_ | apply Kd.rD_)); exact Kd.R_mono HO450.out (fun _ hk => trivial)⟩, ⟨by repeat (first | (with_reducible first | exact HB.out | apply lA_ | apply lN_ | apply lD_ | refine lS_ ?_ GE420.out | refine lS_ ?_ GE433.out | refine lS_ ?_ GE442.out) | exact HB.out)⟩⟩
                 ·
                  rw [if_neg c76] at H
                  exact absurd H (by simp)
       ·
        replace c10 := Bool.eq_false_iff.mpr c10; subst c10; have H1 : (skiarealaw51_BlastCleared.l0 k1 l0 x3_1 x4_1 (wrap64 (x5_1 + 1))) = some r := by rw [if_neg (show ¬ (false = true) by decide)] at H; exact H
        clear H; have H := H1; clear H1; have H' := Aside0.mk H; clear H; have p419 : 0 ≤ (x5_1 : Int) := of_decide_eq_true (by first | (with_reducible assumption) | assumption); have q419 : x5_1 < (l0.length : Int) := of_decide_eq_true (by first | (with_reducible assumption) | assumption); obtain ⟨ad419, e419, hx419_0, hx419_1, hx419_2, hx419_3, hx419_4, hx419_5, hx419_6, hx419_7, hx419_8⟩ := at_T46 HR0.out x5_1 p419 q419
        cases e419
        replace hx419_0 := (HB.out.cell (World.block_lt_of_cell? w _ hx419_0)).trans hx419_0; replace hx419_1 := (HB.out.cell (World.block_lt_of_cell? w _ hx419_1)).trans hx419_1; replace hx419_2 := (HB.out.cell (World.block_lt_of_cell? w _ hx419_2)).trans hx419_2; replace hx419_3 := (HB.out.cell (World.block_lt_of_cell? w _ hx419_3)).trans hx419_3; replace hx419_4 := (HB.out.cell (World.block_lt_of_cell? w _ hx419_4)).trans hx419_4; replace hx419_5 := (HB.out.cell (World.block_lt_of_cell? w _ hx419_5)).trans hx419_5; replace hx419_6 := (HB.out.cell (World.block_lt_of_cell? w _ hx419_6)).trans hx419_6; replace hx419_7 := (HB.out.cell (World.block_lt_of_cell? w _ hx419_7)).trans hx419_7; replace hx419_8 := (HB.out.cell (World.block_lt_of_cell? w _ hx419_8)).trans hx419_8; replace p419 := eq_true p419; replace q419 := eq_true q419
        go_wp2_with (first | ((with_reducible refine gate_dst (N := 6) rfl ?_); refine box_event ?hg (N := 6) ?hd (cs := #[.int .i64 0, .int .i64 0, .int .i64 0, .int .i64 0, .int .i64 0, .int .i64 0, .int .i64 0, .bool false, .bool false]) (t := 46) ?hr ?_; (case hd => rfl); (case hg => rfl); (case hr => first | (go_simp; done) | (go_simp; rfl)); intro gb420 hg w83 hbox hb; have n0_ := Aside0.mk (Kd.V_below (Kd.V_elderB (by (with_reducible repeat (first | apply Kd.V_alloc | apply Kd.V_drewN | apply Kd.V_drew)); exact HO_3.out) gb420 (Nat.le_of_eq hg.symm)) hb); have n1_ := Aside0.mk (Kd.R_below (Kd.R_elderB (by (with_reducible repeat (first | apply Kd.rA_ | apply Kd.rN_ | apply Kd.rD_)); exact HO_4.out) gb420 (Nat.le_of_eq hg.symm)) hb); have n2_ := Aside0.mk (below_step (by repeat (first | (with_reducible first | exact HB.out | apply lA_ | apply lN_ | apply lD_) | exact HB.out)) hb); have n3_ := Aside0.mk (hbox); have n4_ := Aside0.mk ((by rw [hg]; exact (below_size (by repeat (first | (with_reducible first | exact HB.out | apply lA_ | apply lN_ | apply lD_) | exact HB.out))) : w.heap.size ≤ gb420)); have n5_ := Aside0.mk ((by rw [hg]; exact (below_size (by repeat (first | (with_reducible first | exact HB.out | apply lA_ | apply lN_ | apply lD_) | exact HB.out))) : w.heap.size ≤ gb420)); clear HO_3; clear HO_4; clear HB; have HO_3 := n0_; have HO_4 := n1_; have HB := n2_; have BK420 := n3_; have GW420 := n4_; have GE420 := n5_; clear n0_ n1_ n2_ n3_ n4_ n5_; clear hb hbox hg; have hcz84_0 : w83.cell? ⟨gb420, 0, none⟩ = some (.int .i64 0) := (blk_cell BK420.out 0).trans rfl; have hcz84_1 : w83.cell? ⟨gb420, 1, none⟩ = some (.int .i64 0) := (blk_cell BK420.out 1).trans rfl; have hcz84_2 : w83.cell? ⟨gb420, 2, none⟩ = some (.int .i64 0) := (blk_cell BK420.out 2).trans rfl; have hcz84_3 : w83.cell? ⟨gb420, 3, none⟩ = some (.int .i64 0) := (blk_cell BK420.out 3).trans rfl; have hcz84_4 : w83.cell? ⟨gb420, 4, none⟩ = some (.int .i64 0) := (blk_cell BK420.out 4).trans rfl; have hcz84_5 : w83.cell? ⟨gb420, 5, none⟩ = some (.int .i64 0) := (blk_cell BK420.out 5).trans rfl; have hcz84_6 : w83.cell? ⟨gb420, 6, none⟩ = some (.int .i64 0) := (blk_cell BK420.out 6).trans rfl; have hcz84_7 : w83.cell? ⟨gb420, 7, none⟩ = some (.bool false) := (blk_cell BK420.out 7).trans rfl; have hcz84_8 : w83.cell? ⟨gb420, 8, none⟩ = some (.bool false) := (blk_cell BK420.out 8).trans rfl; have hfz84_0 := blk_frozen BK420.out 0; have hfz84_1 := blk_frozen BK420.out 1; have hfz84_2 := blk_frozen BK420.out 2; have hfz84_3 := blk_frozen BK420.out 3; have hfz84_4 := blk_frozen BK420.out 4; have hfz84_5 := blk_frozen BK420.out 5; have hfz84_6 := blk_frozen BK420.out 6; have hfz84_7 := blk_frozen BK420.out 7; have hfz84_8 := blk_frozen BK420.out 8) | ((with_reducible refine gate_store (t := 46) (p := 6) rfl ?_); refine store_event (t := 46) (p := 6) (v := ?vo_w85) (w1 := (((((((((w83.setCell ⟨gb420, 0, none⟩ (.int .i64 ((rd_T46 l0 x5_1).f0))).setCell ⟨gb420, 1, none⟩ (.int .i64 ((rd_T46 l0 x5_1).f1))).setCell ⟨gb420, 2, none⟩ (.int .i64 ((rd_T46 l0 x5_1).f2))).setCell ⟨gb420, 3, none⟩ (.int .i64 ((rd_T46 l0 x5_1).f3))).setCell ⟨gb420, 4, none⟩ (.int .i64 ((rd_T46 l0 x5_1).f4))).setCell ⟨gb420, 5, none⟩ (.int .i64 ((rd_T46 l0 x5_1).f5))).setCell ⟨gb420, 6, none⟩ (.int .i64 ((rd_T46 l0 x5_1).f6))).setCell ⟨gb420, 7, none⟩ (.bool ((rd_T46 l0 x5_1).f7))).setCell ⟨gb420, 8, none⟩ (.bool ((rd_T46 l0 x5_1).f8)))) ?hg ?ho ?hn ?hr ?_; (case ho => rfl); (case hg => rfl); (case hn => rfl); (case hr => first | (go_simp; done) | (go_simp; rfl)); intro w85 hw; have n0_ : Aside0 (Kd.V k30 30 w85 w.heap.size (fun k_ => some k_ ≠ (u4 : Value).ownBlock ∧ k_ ≠ gb420) u3 x3_1) := ⟨(by rw [hw]; exact (by (with_reducible repeat (first | apply Kd.V_alloc | apply Kd.V_drewN | apply Kd.V_drew)); exact Kd.V_mono (Kd.V_far (p := ⟨gb420, 8, none⟩) (Kd.V_far (p := ⟨gb420, 7, none⟩) (Kd.V_far (p := ⟨gb420, 6, none⟩) (Kd.V_far (p := ⟨gb420, 5, none⟩) (Kd.V_far (p := ⟨gb420, 4, none⟩) (Kd.V_far (p := ⟨gb420, 3, none⟩) (Kd.V_far (p := ⟨gb420, 2, none⟩) (Kd.V_far (p := ⟨gb420, 1, none⟩) (Kd.V_far (p := ⟨gb420, 0, none⟩) (Kd.V_mono HO_3.out (fun k_ hk => (⟨hk, hk.2⟩ : _ ∧ k_ ≠ gb420))) (fun _ hk => hk.2) (.int .i64 ((rd_T46 l0 x5_1).f0))) (fun _ hk => hk.2) (.int .i64 ((rd_T46 l0 x5_1).f1))) (fun _ hk => hk.2) (.int .i64 ((rd_T46 l0 x5_1).f2))) (fun _ hk => hk.2) (.int .i64 ((rd_T46 l0 x5_1).f3))) (fun _ hk => hk.2) (.int .i64 ((rd_T46 l0 x5_1).f4))) (fun _ hk => hk.2) (.int .i64 ((rd_T46 l0 x5_1).f5))) (fun _ hk => hk.2) (.int .i64 ((rd_T46 l0 x5_1).f6))) (fun _ hk => hk.2) (.bool ((rd_T46 l0 x5_1).f7))) (fun _ hk => hk.2) (.bool ((rd_T46 l0 x5_1).f8))) (fun _ hk => ⟨hk.1.1, hk.1.2⟩)))⟩; have n1_ : Aside0 (Kd.R k46 46 w85 w.heap.size (fun k_ => k_ ≠ gb420) u4 x4_1) := ⟨(by rw [hw]; exact (by (with_reducible repeat (first | apply Kd.rA_ | apply Kd.rN_ | apply Kd.rD_)); exact Kd.R_mono (Kd.R_far (p := ⟨gb420, 8, none⟩) (Kd.R_far (p := ⟨gb420, 7, none⟩) (Kd.R_far (p := ⟨gb420, 6, none⟩) (Kd.R_far (p := ⟨gb420, 5, none⟩) (Kd.R_far (p := ⟨gb420, 4, none⟩) (Kd.R_far (p := ⟨gb420, 3, none⟩) (Kd.R_far (p := ⟨gb420, 2, none⟩) (Kd.R_far (p := ⟨gb420, 1, none⟩) (Kd.R_far (p := ⟨gb420, 0, none⟩) (Kd.R_mono HO_4.out (fun k_ hk => (⟨hk, hk.2⟩ : _ ∧ k_ ≠ gb420))) (fun _ hk => hk.2) (.int .i64 ((rd_T46 l0 x5_1).f0))) (fun _ hk => hk.2) (.int .i64 ((rd_T46 l0 x5_1).f1))) (fun _ hk => hk.2) (.int .i64 ((rd_T46 l0 x5_1).f2))) (fun _ hk => hk.2) (.int .i64 ((rd_T46 l0 x5_1).f3))) (fun _ hk => hk.2) (.int .i64 ((rd_T46 l0 x5_1).f4))) (fun _ hk => hk.2) (.int .i64 ((rd_T46 l0 x5_1).f5))) (fun _ hk => hk.2) (.int .i64 ((rd_T46 l0 x5_1).f6))) (fun _ hk => hk.2) (.bool ((rd_T46 l0 x5_1).f7))) (fun _ hk => hk.2) (.bool ((rd_T46 l0 x5_1).f8))) (fun _ hk => hk.1.2)))⟩; have n2_ : Aside0 (w85.heap[gb420]? = some (.cells #[.int .i64 ((rd_T46 l0 x5_1).f0), .int .i64 ((rd_T46 l0 x5_1).f1), .int .i64 ((rd_T46 l0 x5_1).f2), .int .i64 ((rd_T46 l0 x5_1).f3), .int .i64 ((rd_T46 l0 x5_1).f4), .int .i64 ((rd_T46 l0 x5_1).f5), .int .i64 ((rd_T46 l0 x5_1).f6), .bool ((rd_T46 l0 x5_1).f7), .bool ((rd_T46 l0 x5_1).f8)] 46 (0, 0))) := ⟨(by rw [hw]; exact (by (with_reducible repeat (first | refine bN_ ?_ _ | refine bD_ ?_ | refine bA_ ?_ _)); refine blk_put (cs := #[.int .i64 ((rd_T46 l0 x5_1).f0), .int .i64 ((rd_T46 l0 x5_1).f1), .int .i64 ((rd_T46 l0 x5_1).f2), .int .i64 ((rd_T46 l0 x5_1).f3), .int .i64 ((rd_T46 l0 x5_1).f4), .int .i64 ((rd_T46 l0 x5_1).f5), .int .i64 ((rd_T46 l0 x5_1).f6), .bool ((rd_T46 l0 x5_1).f7), .bool false]) ?_ 8 _ rfl; (with_reducible repeat (first | refine bN_ ?_ _ | refine bD_ ?_ | refine bA_ ?_ _)); refine blk_put (cs := #[.int .i64 ((rd_T46 l0 x5_1).f0), .int .i64 ((rd_T46 l0 x5_1).f1), .int .i64 ((rd_T46 l0 x5_1).f2), .int .i64 ((rd_T46 l0 x5_1).f3), .int .i64 ((rd_T46 l0 x5_1).f4), .int .i64 ((rd_T46 l0 x5_1).f5), .int .i64 ((rd_T46 l0 x5_1).f6), .bool false, .bool false]) ?_ 7 _ rfl; (with_reducible repeat (first | refine bN_ ?_ _ | refine bD_ ?_ | refine bA_ ?_ _)); refine blk_put (cs := #[.int .i64 ((rd_T46 l0 x5_1).f0), .int .i64 ((rd_T46 l0 x5_1).f1), .int .i64 ((rd_T46 l0 x5_1).f2), .int .i64 ((rd_T46 l0 x5_1).f3), .int .i64 ((rd_T46 l0 x5_1).f4), .int .i64 ((rd_T46 l0 x5_1).f5), .int .i64 0, .bool false, .bool false]) ?_ 6 _ rfl; (with_reducible repeat (first | refine bN_ ?_ _ | refine bD_ ?_ | refine bA_ ?_ _)); refine blk_put (cs := #[.int .i64 ((rd_T46 l0 x5_1).f0), .int .i64 ((rd_T46 l0 x5_1).f1), .int .i64 ((rd_T46 l0 x5_1).f2), .int .i64 ((rd_T46 l0 x5_1).f3), .int .i64 ((rd_T46 l0 x5_1).f4), .int .i64 0, .int .i64 0, .bool false, .bool false]) ?_ 5 _ rfl; (with_reducible repeat (first | refine bN_ ?_ _ | refine bD_ ?_ | refine bA_ ?_ _)); refine blk_put (cs := #[.int .i64 ((rd_T46 l0 x5_1).f0), .int .i64 ((rd_T46 l0 x5_1).f1), .int .i64 ((rd_T46 l0 x5_1).f2), .int .i64 ((rd_T46 l0 x5_1).f3), .int .i64 0, .int .i64 0, .int .i64 0, .bool false, .bool false]) ?_ 4 _ rfl; (with_reducible repeat (first | refine bN_ ?_ _ | refine bD_ ?_ | refine bA_ ?_ _)); refine blk_put (cs := #[.int .i64 ((rd_T46 l0 x5_1).f0), .int .i64 ((rd_T46 l0 x5_1).f1), .int .i64 ((rd_T46 l0 x5_1).f2), .int .i64 0, .int .i64 0, .int .i64 0, .int .i64 0, .bool false, .bool false]) ?_ 3 _ rfl; (with_reducible repeat (first | refine bN_ ?_ _ | refine bD_ ?_ | refine bA_ ?_ _)); refine blk_put (cs := #[.int .i64 ((rd_T46 l0 x5_1).f0), .int .i64 ((rd_T46 l0 x5_1).f1), .int .i64 0, .int .i64 0, .int .i64 0, .int .i64 0, .int .i64 0, .bool false, .bool false]) ?_ 2 _ rfl; (with_reducible repeat (first | refine bN_ ?_ _ | refine bD_ ?_ | refine bA_ ?_ _)); refine blk_put (cs := #[.int .i64 ((rd_T46 l0 x5_1).f0), .int .i64 0, .int .i64 0, .int .i64 0, .int .i64 0, .int .i64 0, .int .i64 0, .bool false, .bool false]) ?_ 1 _ rfl; (with_reducible repeat (first | refine bN_ ?_ _ | refine bD_ ?_ | refine bA_ ?_ _)); refine blk_put (cs := #[.int .i64 0, .int .i64 0, .int .i64 0, .int .i64 0, .int .i64 0, .int .i64 0, .int .i64 0, .bool false, .bool false]) ?_ 0 _ rfl; (with_reducible repeat (first | refine bN_ ?_ _ | refine bD_ ?_ | refine bA_ ?_ _)); exact BK420.out))⟩; have n3_ : Aside0 (Below w.heap.size w w85) := ⟨(by rw [hw]; exact (by repeat (first | (with_reducible first | exact HB.out | apply lA_ | apply lN_ | apply lD_ | refine lS_ ?_ GE420.out) | exact HB.out)))⟩; clear hw; clear HO_3; clear HO_4; clear BK420; clear HB; have HO_3 := n0_; have HO_4 := n1_; have BK420 := n2_; have HB := n3_; clear n0_ n1_ n2_ n3_; have hcz86_0 : w85.cell? ⟨gb420, 0, none⟩ = some (.int .i64 ((rd_T46 l0 x5_1).f0)) := (blk_cell BK420.out 0).trans rfl; have hcz86_1 : w85.cell? ⟨gb420, 1, none⟩ = some (.int .i64 ((rd_T46 l0 x5_1).f1)) := (blk_cell BK420.out 1).trans rfl; have hcz86_2 : w85.cell? ⟨gb420, 2, none⟩ = some (.int .i64 ((rd_T46 l0 x5_1).f2)) := (blk_cell BK420.out 2).trans rfl; have hcz86_3 : w85.cell? ⟨gb420, 3, none⟩ = some (.int .i64 ((rd_T46 l0 x5_1).f3)) := (blk_cell BK420.out 3).trans rfl; have hcz86_4 : w85.cell? ⟨gb420, 4, none⟩ = some (.int .i64 ((rd_T46 l0 x5_1).f4)) := (blk_cell BK420.out 4).trans rfl; have hcz86_5 : w85.cell? ⟨gb420, 5, none⟩ = some (.int .i64 ((rd_T46 l0 x5_1).f5)) := (blk_cell BK420.out 5).trans rfl; have hcz86_6 : w85.cell? ⟨gb420, 6, none⟩ = some (.int .i64 ((rd_T46 l0 x5_1).f6)) := (blk_cell BK420.out 6).trans rfl; have hcz86_7 : w85.cell? ⟨gb420, 7, none⟩ = some (.bool ((rd_T46 l0 x5_1).f7)) := (blk_cell BK420.out 7).trans rfl; have hcz86_8 : w85.cell? ⟨gb420, 8, none⟩ = some (.bool ((rd_T46 l0 x5_1).f8)) := (blk_cell BK420.out 8).trans rfl; have hfz86_0 := blk_frozen BK420.out 0; have hfz86_1 := blk_frozen BK420.out 1; have hfz86_2 := blk_frozen BK420.out 2; have hfz86_3 := blk_frozen BK420.out 3; have hfz86_4 := blk_frozen BK420.out 4; have hfz86_5 := blk_frozen BK420.out 5; have hfz86_6 := blk_frozen BK420.out 6; have hfz86_7 := blk_frozen BK420.out 7; have hfz86_8 := blk_frozen BK420.out 8; obtain ⟨Ao87, co87, eo87⟩ := Kd.V_slice HO_3.out; subst eo87) | ((with_reducible refine gate_callee (f := 30) rfl ?_); refine goesL_ (some 31) rfl rfl Try.func30 (by kernel_rfl) rfl #[.slice Ao87 x3_1.length co87, .agg #[.int .i64 ((rd_T46 l0 x5_1).f0), .int .i64 ((rd_T46 l0 x5_1).f1), .int .i64 ((rd_T46 l0 x5_1).f2), .int .i64 ((rd_T46 l0 x5_1).f3), .int .i64 ((rd_T46 l0 x5_1).f4), .int .i64 ((rd_T46 l0 x5_1).f5), .int .i64 ((rd_T46 l0 x5_1).f6), .bool ((rd_T46 l0 x5_1).f7), .bool ((rd_T46 l0 x5_1).f8)]] rfl (by (try simp only [List.map_toArray, List.map_cons, List.map_nil]); first | done | rfl | (simp only [List.length_drop, List.length_take]; rfl)) ?_; (with_reducible refine (skiarealaw51_do.calls (fun k_ => (some k_ ≠ (u4 : Value).ownBlock ∧ k_ ≠ gb420)) _ _ x3_1 ((rd_T46 l0 x5_1).f0) ((rd_T46 l0 x5_1).f1) ((rd_T46 l0 x5_1).f2) ((rd_T46 l0 x5_1).f3) ((rd_T46 l0 x5_1).f4) ((rd_T46 l0 x5_1).f5) ((rd_T46 l0 x5_1).f6) ((rd_T46 l0 x5_1).f7) ((rd_T46 l0 x5_1).f8) t421 false _ ?side1 A9.out).mono ?_); (case side1 => exact HO_3.out); rintro e w88 ⟨v422, rfl, ho0, hb⟩; refine ⟨_, rfl, ?_⟩; have n0_ := Aside0.mk (Kd.V_below (by (with_reducible repeat (first | apply Kd.V_alloc | apply Kd.V_drewN | apply Kd.V_drew)); exact HO_3.out) hb); have n1_ := Aside0.mk (Kd.R_below (by (with_reducible repeat (first | apply Kd.rA_ | apply Kd.rN_ | apply Kd.rD_)); exact HO_4.out) hb); have n2_ := Aside0.mk (Kd.V_lower (Kd.V_mono (ok' := fun k_ => some k_ ≠ (u4 : Value).ownBlock ∧ k_ ≠ gb420) ho0 (fun k_ hk_ => ⟨Or.elim hk_ (fun hs_ => hs_.1) (fun hn_ => (Kd.fresh' (Kd.R_lt (by (with_reducible repeat (first | apply Kd.rA_ | apply Kd.rN_ | apply Kd.rD_)); exact HO_4.out)) k_ hn_)), Or.elim hk_ (fun hs_ => hs_.2) (fun hn_ => (Kd.freshB (g := gb420) (o := .cells #[.int .i64 ((rd_T46 l0 x5_1).f0), .int .i64 ((rd_T46 l0 x5_1).f1), .int .i64 ((rd_T46 l0 x5_1).f2), .int .i64 ((rd_T46 l0 x5_1).f3), .int .i64 ((rd_T46 l0 x5_1).f4), .int .i64 ((rd_T46 l0 x5_1).f5), .int .i64 ((rd_T46 l0 x5_1).f6), .bool ((rd_T46 l0 x5_1).f7), .bool ((rd_T46 l0 x5_1).f8)] 46 (0, 0)) (by (with_reducible repeat (first | refine bN_ ?_ _ | refine bD_ ?_ | refine bA_ ?_ _)); exact BK420.out) k_ hn_))⟩)) (below_size (by repeat (first | (with_reducible first | exact HB.out | apply lA_ | apply lN_ | apply lD_ | refine lS_ ?_ GE420.out) | exact HB.out)))); have n3_ := Aside0.mk (blk_below (g := gb420) (o := .cells #[.int .i64 ((rd_T46 l0 x5_1).f0), .int .i64 ((rd_T46 l0 x5_1).f1), .int .i64 ((rd_T46 l0 x5_1).f2), .int .i64 ((rd_T46 l0 x5_1).f3), .int .i64 ((rd_T46 l0 x5_1).f4), .int .i64 ((rd_T46 l0 x5_1).f5), .int .i64 ((rd_T46 l0 x5_1).f6), .bool ((rd_T46 l0 x5_1).f7), .bool ((rd_T46 l0 x5_1).f8)] 46 (0, 0)) (by (with_reducible repeat (first | refine bN_ ?_ _ | refine bD_ ?_ | refine bA_ ?_ _)); exact BK420.out) hb); have n4_ := Aside0.mk (below_step (by repeat (first | (with_reducible first | exact HB.out | apply lA_ | apply lN_ | apply lD_ | refine lS_ ?_ GE420.out) | exact HB.out)) hb); clear HO_3; clear HO_4; clear BK420; clear HB; have HO_3 := n0_; have HO_4 := n1_; have HO423 := n2_; have BK420 := n3_; have HB := n4_; clear n0_ n1_ n2_ n3_ n4_; (try clear hb); (try clear hb2); (try clear hk); (try clear hi); (try clear ho0)))
        go_roundg k1
        case measure => have := HK1.out; omega
        case rel => exact ⟨(x3_1), (x4_1), (wrap64 (x5_1 + 1)), (by first | rfl | (simp; done) | (simp [*]; done)), H', ⟨by have := HK1.out; omega⟩, ⟨by (with_reducible repeat (first | apply Kd.V_alloc | apply Kd.V_drewN | apply Kd.V_drew)); exact Kd.V_mono HO_3.out (fun _ hk => hk.1)⟩, ⟨by (with_reducible repeat (first | apply Kd.rA_ | apply Kd.rN_ | apply Kd.rD_)); exact Kd.R_mono HO_4.out (fun _ hk => trivial)⟩, ⟨by repeat (first | (with_reducible first | exact HB.out | apply lA_ | apply lN_ | apply lD_ | refine lS_ ?_ GE420.out) | exact HB.out)⟩⟩
      ·
       rw [if_neg c8] at H
       exact absurd H (by simp)
     ·
      rw [if_neg c7] at H
      have c7b0 : decide (x5_1 < (l0.length : Int)) = false := decide_eq_false c7; clear c7; obtain rfl := Option.some.inj H; go_wp2
      go_ret
      exact ⟨by first | rfl | (simp [errW_none, errW_some] <;> rfl) | (simp [*, errW_none, errW_some] <;> rfl), by repeat (first | (with_reducible first | exact HB.out | apply lA_ | apply lN_ | apply lD_) | exact HB.out)⟩
 ·
  replace c3 := Bool.eq_false_iff.mpr c3; subst c3; have H1 : (none) = some r := by rw [if_neg (show ¬ (false = true) by decide)] at H; exact H
  clear H; have H := H1; clear H1
  exact absurd H (by simp)

end Go.Proofs.Ytjlfaoaoinhebaa.A
