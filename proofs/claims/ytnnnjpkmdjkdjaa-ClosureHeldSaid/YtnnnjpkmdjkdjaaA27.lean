-- PRINTED by print.py (a twelfth state) out of the translation. Not trusted: Lean checks it.
import Derived.Test.YtnnnjpkmdjkdjaaA0
import Derived.Test.YtnnnjpkmdjkdjaaA1
import Derived.Test.YtnnnjpkmdjkdjaaA5
import Derived.Test.YtnnnjpkmdjkdjaaA7
import Derived.Test.YtnnnjpkmdjkdjaaA9
import Derived.Test.YtnnnjpkmdjkdjaaA11
import Derived.Test.YtnnnjpkmdjkdjaaA15
import Derived.Test.YtnnnjpkmdjkdjaaA16
import Derived.Test.YtnnnjpkmdjkdjaaA18
import Derived.Test.YtnnnjpkmdjkdjaaA26
import Derived.Test.YtnnnjpkmdjkdjaaA27d
namespace Go.Proofs.Ytnnnjpkmdjkdjaa.A
open Go.RowKit Go.Proofs.YtnnnjpkmdjkdjaaW.PrintWords Go.Proofs.YtnnnjpkmdjkdjaaW.PrintLast Go.Proofs.YtnnnjpkmdjkdjaaW.PrintMore
attribute [local go_sem] max2_int min2_int max_two min_two max_three min_three max_four min_four   -- for this text's walks alone
set_option linter.unusedVariables false
set_option linter.unusedSimpArgs false

attribute [local go_sem high] eqA28
set_option maxHeartbeats 8000000 in
set_option maxRecDepth 100000 in
theorem skiarealaw52_ClosureHeld.calls (k : Nat) (P0_ : Nat → Prop) (A0 : Option Addr) (c0 : Nat) (l0 : List (S28)) (A1 : Option Addr) (c1 : Nat) (l1 : List (S50)) (a2_0 : Int) (a2_1 : Int) (a2_2 : Int) (r : Bool) (w : World) (hs0 : Kd.V k28 28 w w.heap.size (fun k_ => P0_ k_) (.slice A0 l0.length c0) l0) (hr1 : Kd.C k50 w A1 l1.length l1) (hc1 : l1.length ≤ c1) (h : skiarealaw52_ClosureHeld.f k l0 l1 a2_0 a2_1 a2_2 = some r) :
  Calls Try.prog 6 #[.slice A0 l0.length c0, .slice A1 l1.length c1, .agg #[.int .i64 a2_0, .int .i64 a2_1, .int .i64 a2_2]] w fun e w' => e = .returned (.bool r) ∧ Below w.heap.size w w' := by
 have hu30 := Try.underlying30; have hu28 := Try.underlying28; have HO0 := Aside0.mk (show Kd.V k28 28 w w.heap.size (fun k_ => (P0_ k_ ∨ w.heap.size ≤ k_)) (.slice A0 l0.length c0) l0 from Kd.V_mono hs0 (fun k_ hk => .inl hk)); have HR1 := Aside0.mk hr1; have HC1 := Aside0.mk hc1; clear hr1 hc1; have HB := Aside0.mk (Below.refl w.heap.size w); have H : ((skiarealaw52_alive.f k).bind fun t391 => (if t391 = true then ((skiarealaw52_right.f k l0).bind fun t392 => (if t392 = true then (skiarealaw52_ClosureHeld.j0 k l0 l1 (decide ((l1.length : Int) > 80)) a2_0 a2_1 a2_2) else (skiarealaw52_ClosureHeld.j0 k l0 l1 true a2_0 a2_1 a2_2))) else (none))) = some r := h; clear h; replace H := Option.bind_eq_some_iff.mp H; obtain ⟨t391, A40, H⟩ := H; replace H : (if t391 = true then ((skiarealaw52_right.f k l0).bind fun t392 => (if t392 = true then (skiarealaw52_ClosureHeld.j0 k l0 l1 (decide ((l1.length : Int) > 80)) a2_0 a2_1 a2_2) else (skiarealaw52_ClosureHeld.j0 k l0 l1 true a2_0 a2_1 a2_2))) else (none)) = some r := H; have A4 := Aside0.mk A40; clear A40; by_cases c5 : t391 = true
 ·
  subst c5; have H1 : ((skiarealaw52_right.f k l0).bind fun t392 => (if t392 = true then (skiarealaw52_ClosureHeld.j0 k l0 l1 (decide ((l1.length : Int) > 80)) a2_0 a2_1 a2_2) else (skiarealaw52_ClosureHeld.j0 k l0 l1 true a2_0 a2_1 a2_2))) = some r := by rw [if_pos rfl] at H; exact H
  clear H; have H := H1; clear H1; have HC6 := Aside0.mk H; clear H; go_enter Try.func6, Try.ntmps6
  go_upto_region 3 with (first | ((with_reducible refine gate_dst (N := 5) rfl ?_); (try (refine gate_guard (by rfl) ?_; dsimp only)); refine box_event ?hg (N := 5) ?hd (cs := #[.int .i64 a2_0, .int .i64 a2_1, .int .i64 a2_2]) (t := 30) ?hr ?_; (case hd => rfl); (case hg => rfl); (case hr => first | (go_simp; done) | (go_simp; rfl)); intro gb390 hg w7 hbox hb; have n0_ := Aside0.mk (Kd.V_below (Kd.V_elderB (by (with_reducible repeat (first | apply Kd.V_alloc | apply Kd.V_drewN | apply Kd.V_drew)); exact HO0.out) gb390 (Nat.le_of_eq hg.symm)) hb); have n1_ := Aside0.mk (below_step (by repeat (first | (with_reducible first | exact HB.out | apply lA_ | apply lN_ | apply lD_) | exact HB.out)) hb); have n2_ := Aside0.mk (hbox); have n3_ := Aside0.mk ((by rw [hg]; exact (below_size (by repeat (first | (with_reducible first | exact HB.out | apply lA_ | apply lN_ | apply lD_) | exact HB.out))) : w.heap.size ≤ gb390)); have n4_ := Aside0.mk ((by rw [hg]; exact (below_size (by repeat (first | (with_reducible first | exact HB.out | apply lA_ | apply lN_ | apply lD_) | exact HB.out))) : w.heap.size ≤ gb390)); clear HO0; clear HB; have HO0 := n0_; have HB := n1_; have BK390 := n2_; have GW390 := n3_; have GE390 := n4_; clear n0_ n1_ n2_ n3_ n4_; clear hb hbox hg) | ((with_reducible refine gate_callee (f := 9) rfl ?_); refine goesL_ (some 14) rfl rfl Try.func9 (by kernel_rfl) rfl #[] rfl (by (try simp only [List.map_toArray, List.map_cons, List.map_nil]); first | done | rfl | (simp only [List.length_drop, List.length_take]; rfl)) ?_; (with_reducible refine (skiarealaw52_alive.calls k  true _ A4.out).mono ?_); rintro e w8 ⟨rfl, hb⟩; refine ⟨_, rfl, ?_⟩; have n0_ := Aside0.mk (Kd.V_below (by (with_reducible repeat (first | apply Kd.V_alloc | apply Kd.V_drewN | apply Kd.V_drew)); exact HO0.out) hb); have n1_ := Aside0.mk (blk_below (g := gb390) (o := .cells #[.int .i64 a2_0, .int .i64 a2_1, .int .i64 a2_2] 30 (0, 0)) (by (with_reducible repeat (first | refine bN_ ?_ _ | refine bD_ ?_ | refine bA_ ?_ _)); exact BK390.out) hb); have n2_ := Aside0.mk (below_step (by repeat (first | (with_reducible first | exact HB.out | apply lA_ | apply lN_ | apply lD_ | refine lS_ ?_ GE390.out) | exact HB.out)) hb); clear HO0; clear BK390; clear HB; have HO0 := n0_; have BK390 := n1_; have HB := n2_; clear n0_ n1_ n2_; (try clear hb); (try clear hb2); (try clear hk); (try clear hi)))
  (try simp only [Act.put, List.setIfInBounds_toArray, List.set_cons_zero, List.set_cons_succ])
  go_cut [23] (fun v23 wc => ∃ (kq : Nat) (x23_5 : Bool), v23 = .bool x23_5 ∧ Aside0 (skiarealaw52_ClosureHeld.j0 kq l0 l1 x23_5 a2_0 a2_1 a2_2 = some r) ∧ Aside0 (kq ≤ k) ∧ Aside0 (Kd.V k28 28 wc w.heap.size (fun k_ => (P0_ k_ ∨ w.heap.size ≤ k_) ∧ k_ ≠ gb390) (.slice A0 l0.length c0) l0) ∧ Aside0 (wc.heap[gb390]? = some (.cells #[.int .i64 a2_0, .int .i64 a2_1, .int .i64 a2_2] 30 (0, 0))) ∧ Aside0 (Below w.heap.size w wc))
  case first =>
   have H := HC6.out; clear HC6; replace H := Option.bind_eq_some_iff.mp H; obtain ⟨t392, A90, H⟩ := H; replace H : (if t392 = true then (skiarealaw52_ClosureHeld.j0 k l0 l1 (decide ((l1.length : Int) > 80)) a2_0 a2_1 a2_2) else (skiarealaw52_ClosureHeld.j0 k l0 l1 true a2_0 a2_1 a2_2)) = some r := H; have A9 := Aside0.mk A90; clear A90; by_cases c10 : t392 = true
   ·
    subst c10; have H1 : (skiarealaw52_ClosureHeld.j0 k l0 l1 (decide ((l1.length : Int) > 80)) a2_0 a2_1 a2_2) = some r := by rw [if_pos rfl] at H; exact H
    clear H; have H := H1; clear H1; have H' := Aside0.mk H; clear H; go_wp2_with (first | ((with_reducible refine gate_callee (f := 12) rfl ?_); refine goesL_ (some 17) rfl rfl Try.func12 (by kernel_rfl) rfl #[.slice A0 l0.length c0] rfl (by (try simp only [List.map_toArray, List.map_cons, List.map_nil]); first | done | rfl | (simp only [List.length_drop, List.length_take]; rfl)) ?_; (with_reducible refine (skiarealaw52_right.calls k _ _ l0 true _ ?side1 ?side2 A9.out).mono ?_); (case side1 => repeat (first | exact (Kd.V_reads' HO0.out).2.2 | (with_reducible refine Kd.cA_ ?_ _) | (with_reducible refine Kd.cN_ ?_ _) | (with_reducible refine Kd.cD_ ?_))); (case side2 => exact (Kd.V_reads' HO0.out).2.1); rintro e w11 ⟨rfl, hb⟩; refine ⟨_, rfl, ?_⟩; have n0_ := Aside0.mk (Kd.V_below (by (with_reducible repeat (first | apply Kd.V_alloc | apply Kd.V_drewN | apply Kd.V_drew)); exact HO0.out) hb); have n1_ := Aside0.mk (blk_below (g := gb390) (o := .cells #[.int .i64 a2_0, .int .i64 a2_1, .int .i64 a2_2] 30 (0, 0)) (by (with_reducible repeat (first | refine bN_ ?_ _ | refine bD_ ?_ | refine bA_ ?_ _)); exact BK390.out) hb); have n2_ := Aside0.mk (below_step (by repeat (first | (with_reducible first | exact HB.out | apply lA_ | apply lN_ | apply lD_ | refine lS_ ?_ GE390.out) | exact HB.out)) hb); clear HO0; clear BK390; clear HB; have HO0 := n0_; have BK390 := n1_; have HB := n2_; clear n0_ n1_ n2_; (try clear hb); (try clear hb2); (try clear hk); (try clear hi)))
    go_meet
    case rel => exact ⟨_, (decide ((l1.length : Int) > 80)), (by first | rfl | (simp; done) | (simp [*]; done)), H', ⟨by first | omega | exact Nat.le_refl _⟩, ⟨by (with_reducible repeat (first | apply Kd.V_alloc | apply Kd.V_drewN | apply Kd.V_drew)); exact HO0.out⟩, ⟨by (with_reducible repeat (first | refine bN_ ?_ _ | refine bD_ ?_ | refine bA_ ?_ _)); exact BK390.out⟩, ⟨by repeat (first | (with_reducible first | exact HB.out | apply lA_ | apply lN_ | apply lD_ | refine lS_ ?_ GE390.out) | exact HB.out)⟩⟩
   ·
    replace c10 := Bool.eq_false_iff.mpr c10; subst c10; have H1 : (skiarealaw52_ClosureHeld.j0 k l0 l1 true a2_0 a2_1 a2_2) = some r := by rw [if_neg (show ¬ (false = true) by decide)] at H; exact H
    clear H; have H := H1; clear H1; have H' := Aside0.mk H; clear H; go_wp2_with (first | ((with_reducible refine gate_callee (f := 12) rfl ?_); refine goesL_ (some 17) rfl rfl Try.func12 (by kernel_rfl) rfl #[.slice A0 l0.length c0] rfl (by (try simp only [List.map_toArray, List.map_cons, List.map_nil]); first | done | rfl | (simp only [List.length_drop, List.length_take]; rfl)) ?_; (with_reducible refine (skiarealaw52_right.calls k _ _ l0 false _ ?side1 ?side2 A9.out).mono ?_); (case side1 => repeat (first | exact (Kd.V_reads' HO0.out).2.2 | (with_reducible refine Kd.cA_ ?_ _) | (with_reducible refine Kd.cN_ ?_ _) | (with_reducible refine Kd.cD_ ?_))); (case side2 => exact (Kd.V_reads' HO0.out).2.1); rintro e w12 ⟨rfl, hb⟩; refine ⟨_, rfl, ?_⟩; have n0_ := Aside0.mk (Kd.V_below (by (with_reducible repeat (first | apply Kd.V_alloc | apply Kd.V_drewN | apply Kd.V_drew)); exact HO0.out) hb); have n1_ := Aside0.mk (blk_below (g := gb390) (o := .cells #[.int .i64 a2_0, .int .i64 a2_1, .int .i64 a2_2] 30 (0, 0)) (by (with_reducible repeat (first | refine bN_ ?_ _ | refine bD_ ?_ | refine bA_ ?_ _)); exact BK390.out) hb); have n2_ := Aside0.mk (below_step (by repeat (first | (with_reducible first | exact HB.out | apply lA_ | apply lN_ | apply lD_ | refine lS_ ?_ GE390.out) | exact HB.out)) hb); clear HO0; clear BK390; clear HB; have HO0 := n0_; have BK390 := n1_; have HB := n2_; clear n0_ n1_ n2_; (try clear hb); (try clear hb2); (try clear hk); (try clear hi)))
    go_meet
    case rel => exact ⟨_, (true), (by first | rfl | (simp; done) | (simp [*]; done)), H', ⟨by first | omega | exact Nat.le_refl _⟩, ⟨by (with_reducible repeat (first | apply Kd.V_alloc | apply Kd.V_drewN | apply Kd.V_drew)); exact HO0.out⟩, ⟨by (with_reducible repeat (first | refine bN_ ?_ _ | refine bD_ ?_ | refine bA_ ?_ _)); exact BK390.out⟩, ⟨by repeat (first | (with_reducible first | exact HB.out | apply lA_ | apply lN_ | apply lD_ | refine lS_ ?_ GE390.out) | exact HB.out)⟩⟩
  case rest =>
   clear HC6; try clear c1
   try clear p2
   try clear c5
   try clear c6
   try clear c9
   try clear c10
   try clear c12
   obtain ⟨kq, x23_5, rfl, HA, HJ5, HO_0, BK390, HB⟩ := hcut
   cases kq with
   | zero => exact absurd HA.out (by simp [skiarealaw52_ClosureHeld.j0])
   | succ kj5 =>
    have H := HA.out; clear HA; simp only [skiarealaw52_ClosureHeld.j0] at H
    by_cases c13 : x23_5 = true
    ·
     subst c13; have H1 : (some true) = some r := by rw [if_pos rfl] at H; exact H
     clear H; have H := H1; clear H1; obtain rfl := Option.some.inj H; go_wp2
     go_ret
     exact ⟨by first | rfl | (simp [errW_none, errW_some] <;> rfl) | (simp [*, errW_none, errW_some] <;> rfl), by repeat (first | (with_reducible first | exact HB.out | apply lA_ | apply lN_ | apply lD_ | refine lS_ ?_ GE390.out) | exact HB.out)⟩
    ·
     replace c13 := Bool.eq_false_iff.mpr c13; subst c13; have H1 : (skiarealaw52_ClosureHeld.l0 kj5 l0 l1 0 a2_0 a2_1 a2_2) = some r := by rw [if_neg (show ¬ (false = true) by decide)] at H; exact H
     clear H; have H := H1; clear H1; have H' := Aside0.mk H; clear H; go_wp2
     go_loopg [0, 7] kj5 (fun kq v0 v7 w' => ∃ (x0_2 : List (S28)) (x7_2 : Int), v7 = .int .i64 x7_2 ∧ Aside0 (skiarealaw52_ClosureHeld.l0 kq x0_2 l1 x7_2 a2_0 a2_1 a2_2 = some r) ∧ Aside0 (kq ≤ kj5) ∧ Aside0 (Kd.V k28 28 w' w.heap.size (fun k_ => (P0_ k_ ∨ w.heap.size ≤ k_) ∧ k_ ≠ gb390) v0 x0_2) ∧ Aside0 (w'.heap[gb390]? = some (.cells #[.int .i64 a2_0, .int .i64 a2_1, .int .i64 a2_2] 30 (0, 0))) ∧ Aside0 (Below w.heap.size w w'))
     case atStart => exact ⟨(l0), (0), (by first | rfl | (simp; done) | (simp [*]; done)), H', ⟨Nat.le_refl _⟩, ⟨by (with_reducible repeat (first | apply Kd.V_alloc | apply Kd.V_drewN | apply Kd.V_drew)); exact HO_0.out⟩, ⟨by (with_reducible repeat (first | refine bN_ ?_ _ | refine bD_ ?_ | refine bA_ ?_ _)); exact BK390.out⟩, ⟨by repeat (first | (with_reducible first | exact HB.out | apply lA_ | apply lN_ | apply lD_ | refine lS_ ?_ GE390.out) | exact HB.out)⟩⟩
     case round =>
      clear H'; try clear c1
      try clear p2
      try clear c5
      try clear c6
      try clear c9
      try clear c10
      try clear c12
      try clear c13
      try clear p2
      obtain ⟨x0_2, x7_2, rfl, HA, HK2, HO_0, BK390, HB⟩ := hrel
      cases gk with
      | zero => exact absurd HA.out (by simp [skiarealaw52_ClosureHeld.l0])
      | succ k2 =>
       have H := HA.out; clear HA; simp only [skiarealaw52_ClosureHeld.l0] at H
       by_cases c14 : x7_2 < (l1.length : Int)
       ·
        rw [if_pos c14] at H
        have c14b0 : decide (x7_2 < (l1.length : Int)) = true := decide_eq_true c14; clear c14; by_cases c15 : 0 ≤ x7_2
        ·
         rw [if_pos c15] at H
         have c15b0 : decide (0 ≤ x7_2) = true := decide_eq_true c15; clear c15; replace H := Option.bind_eq_some_iff.mp H; obtain ⟨t395, A160, H⟩ := H; replace H : (if (rd_T50 l1 x7_2).f0 = true then ((closure_Open.f x0_2 ((rd_T50 l1 x7_2).f1.f0) ((rd_T50 l1 x7_2).f1.f1) ((rd_T50 l1 x7_2).f1.f2)).bind fun bt397 => (skiarealaw52_ClosureHeld.j2 k2 x0_2 l1 x7_2 t395 bt397.1 bt397.2 a2_0 a2_1 a2_2 ((rd_T50 l1 x7_2).f1.f0) ((rd_T50 l1 x7_2).f1.f1) ((rd_T50 l1 x7_2).f1.f2) ((rd_T50 l1 x7_2).f1.f3))) else ((closure_Close.f x0_2 ((rd_T50 l1 x7_2).f1.f0) ((rd_T50 l1 x7_2).f1.f1) ((rd_T50 l1 x7_2).f1.f2) ((rd_T50 l1 x7_2).f1.f3)).bind fun bt401 => (skiarealaw52_ClosureHeld.j2 k2 x0_2 l1 x7_2 t395 bt401.1 bt401.2 a2_0 a2_1 a2_2 ((rd_T50 l1 x7_2).f1.f0) ((rd_T50 l1 x7_2).f1.f1) ((rd_T50 l1 x7_2).f1.f2) ((rd_T50 l1 x7_2).f1.f3)))) = some r := H; have A16 := Aside0.mk A160; clear A160; have HC17 := Aside0.mk H; clear H; have p393 : 0 ≤ (x7_2 : Int) := of_decide_eq_true (by first | (with_reducible assumption) | assumption); have q393 : x7_2 < (l1.length : Int) := of_decide_eq_true (by first | (with_reducible assumption) | assumption); obtain ⟨ad393, e393, hx393_0, hx393_1, hx393_2, hx393_3, hx393_4⟩ := at_T50 HR1.out x7_2 p393 q393
         cases e393
         replace hx393_0 := (HB.out.cell (World.block_lt_of_cell? w _ hx393_0)).trans hx393_0; replace hx393_1 := (HB.out.cell (World.block_lt_of_cell? w _ hx393_1)).trans hx393_1; replace hx393_2 := (HB.out.cell (World.block_lt_of_cell? w _ hx393_2)).trans hx393_2; replace hx393_3 := (HB.out.cell (World.block_lt_of_cell? w _ hx393_3)).trans hx393_3; replace hx393_4 := (HB.out.cell (World.block_lt_of_cell? w _ hx393_4)).trans hx393_4; replace p393 := eq_true p393; replace q393 := eq_true q393
         go_upto_if 47 with (first | ((with_reducible refine gate_dst (N := 8) rfl ?_); (try (refine gate_guard (by rfl) ?_; dsimp only)); refine box_event ?hg (N := 8) ?hd (cs := #[.int .i64 0, .int .i64 0, .int .i64 0, .int .i64 0]) (t := 28) ?hr ?_; (case hd => rfl); (case hg => rfl); (case hr => first | (go_simp; done) | (go_simp; rfl)); intro gb394 hg w18 hbox hb; have n0_ := Aside0.mk (Kd.V_below (Kd.V_elderB (by (with_reducible repeat (first | apply Kd.V_alloc | apply Kd.V_drewN | apply Kd.V_drew)); exact HO_0.out) gb394 (Nat.le_of_eq hg.symm)) hb); have n1_ := Aside0.mk (blk_below (g := gb390) (o := .cells #[.int .i64 a2_0, .int .i64 a2_1, .int .i64 a2_2] 30 (0, 0)) (by (with_reducible repeat (first | refine bN_ ?_ _ | refine bD_ ?_ | refine bA_ ?_ _)); exact BK390.out) hb); have n2_ := Aside0.mk (below_step (by repeat (first | (with_reducible first | exact HB.out | apply lA_ | apply lN_ | apply lD_ | refine lS_ ?_ GE390.out) | exact HB.out)) hb); have n3_ := Aside0.mk (hbox); have n4_ := Aside0.mk ((by rw [hg]; exact (below_size (by repeat (first | (with_reducible first | exact HB.out | apply lA_ | apply lN_ | apply lD_ | refine lS_ ?_ GE390.out) | exact HB.out))) : w.heap.size ≤ gb394)); have n5_ := Aside0.mk ((by rw [hg]; exact (below_size (by repeat (first | (with_reducible first | exact HB.out | apply lA_ | apply lN_ | apply lD_ | refine lS_ ?_ GE390.out) | exact HB.out))) : w.heap.size ≤ gb394)); have n6_ := Aside0.mk ((by rw [hg]; exact Nat.ne_of_lt (blk_lt (g := gb390) (o := .cells #[.int .i64 a2_0, .int .i64 a2_1, .int .i64 a2_2] 30 (0, 0)) (by (with_reducible repeat (first | refine bN_ ?_ _ | refine bD_ ?_ | refine bA_ ?_ _)); exact BK390.out)) : gb390 ≠ gb394)); have n7_ := Aside0.mk ((by rw [hg]; exact Nat.ne_of_gt (blk_lt (g := gb390) (o := .cells #[.int .i64 a2_0, .int .i64 a2_1, .int .i64 a2_2] 30 (0, 0)) (by (with_reducible repeat (first | refine bN_ ?_ _ | refine bD_ ?_ | refine bA_ ?_ _)); exact BK390.out)) : gb394 ≠ gb390)); clear HO_0; clear BK390; clear HB; have HO_0 := n0_; have BK390 := n1_; have HB := n2_; have BK394 := n3_; have GW394 := n4_; have GE394 := n5_; have NB390_394 := n6_; have NB394_390 := n7_; clear n0_ n1_ n2_ n3_ n4_ n5_ n6_ n7_; clear hb hbox hg; have hnb19 := NB394_390.out; have hnc19 := NB390_394.out; have hcz20_0 : w18.cell? ⟨gb394, 0, none⟩ = some (.int .i64 0) := (blk_cell BK394.out 0).trans rfl; have hcz20_1 : w18.cell? ⟨gb394, 1, none⟩ = some (.int .i64 0) := (blk_cell BK394.out 1).trans rfl; have hcz20_2 : w18.cell? ⟨gb394, 2, none⟩ = some (.int .i64 0) := (blk_cell BK394.out 2).trans rfl; have hcz20_3 : w18.cell? ⟨gb394, 3, none⟩ = some (.int .i64 0) := (blk_cell BK394.out 3).trans rfl; have hfz20_0 := blk_frozen BK394.out 0; have hfz20_1 := blk_frozen BK394.out 1; have hfz20_2 := blk_frozen BK394.out 2; have hfz20_3 := blk_frozen BK394.out 3; have hcz21_0 : w18.cell? ⟨gb390, 0, none⟩ = some (.int .i64 a2_0) := (blk_cell BK390.out 0).trans rfl; have hcz21_1 : w18.cell? ⟨gb390, 1, none⟩ = some (.int .i64 a2_1) := (blk_cell BK390.out 1).trans rfl; have hcz21_2 : w18.cell? ⟨gb390, 2, none⟩ = some (.int .i64 a2_2) := (blk_cell BK390.out 2).trans rfl; have hfz21_0 := blk_frozen BK390.out 0; have hfz21_1 := blk_frozen BK390.out 1; have hfz21_2 := blk_frozen BK390.out 2; obtain ⟨Ao22, co22, eo22⟩ := Kd.V_slice HO_0.out; subst eo22) | ((with_reducible refine gate_callee (f := 26) rfl ?_); refine goesL_ (some 42) rfl rfl Try.func26 (by kernel_rfl) rfl #[.slice Ao22 x0_2.length co22, .int .i64 a2_0, .int .i64 a2_1, .int .i64 a2_2] rfl (by (try simp only [List.map_toArray, List.map_cons, List.map_nil]); first | done | rfl | (simp only [List.length_drop, List.length_take]; rfl)) ?_; (with_reducible refine (skiarearef52_Place.calls k2 _ _ x0_2 a2_0 a2_1 a2_2 t395 _ ?side1 ?side2 A16.out).mono ?_); (case side1 => refine (Kd.V_reads' (e := 28) (base := w.heap.size) (ok := fun k_ => (((P0_ k_ ∨ w.heap.size ≤ k_) ∧ k_ ≠ gb390) ∧ k_ ≠ gb394)) (n := x0_2.length) (c := co22) ?_).2.2; exact (by (with_reducible repeat (first | apply Kd.V_alloc | apply Kd.V_drewN | apply Kd.V_drew)); exact (Kd.V_mono (Kd.V_far (p := ⟨gb394, 3, none⟩) (Kd.V_far (p := ⟨gb394, 2, none⟩) (Kd.V_far (p := ⟨gb394, 1, none⟩) (Kd.V_far (p := ⟨gb394, 0, none⟩) (Kd.V_mono HO_0.out (fun k_ hk => (⟨hk, hk.2⟩ : _ ∧ k_ ≠ gb394))) (fun _ hk => hk.2) (.int .i64 ((rd_T50 l1 x7_2).f1.f0))) (fun _ hk => hk.2) (.int .i64 ((rd_T50 l1 x7_2).f1.f1))) (fun _ hk => hk.2) (.int .i64 ((rd_T50 l1 x7_2).f1.f2))) (fun _ hk => hk.2) (.int .i64 ((rd_T50 l1 x7_2).f1.f3))) (fun _ h_ => h_.1)))); (case side2 => exact (Kd.V_reads' HO_0.out).2.1); rintro e w' ⟨rfl, ⟨nd, rfl⟩⟩; refine ⟨_, rfl, ?_⟩; have p396 : 0 ≤ (x7_2 : Int) := of_decide_eq_true (by first | (with_reducible assumption) | assumption); have q396 : x7_2 < (l1.length : Int) := of_decide_eq_true (by first | (with_reducible assumption) | assumption); obtain ⟨ad396, e396, hx396_0, hx396_1, hx396_2, hx396_3, hx396_4⟩ := at_T50 HR1.out x7_2 p396 q396; obtain rfl : ad393 = ad396 := (by injection e396); have hn396_0 : ad393.block ≠ gb394 := Nat.ne_of_lt (Nat.lt_of_lt_of_le (by have := World.block_lt_of_cell? _ _ hx396_0; first | rwa [add_block] at this | exact this) GW394.out); have hn396_1 : ad393.block ≠ gb394 := Nat.ne_of_lt (Nat.lt_of_lt_of_le (by have := World.block_lt_of_cell? _ _ hx396_0; first | rwa [add_block] at this | exact this) GW394.out); have hn396_2 : ad393.block ≠ gb394 := Nat.ne_of_lt (Nat.lt_of_lt_of_le (by have := World.block_lt_of_cell? _ _ hx396_0; first | rwa [add_block] at this | exact this) GW394.out); have hn396_3 : ad393.block ≠ gb394 := Nat.ne_of_lt (Nat.lt_of_lt_of_le (by have := World.block_lt_of_cell? _ _ hx396_0; first | rwa [add_block] at this | exact this) GW394.out); replace hx396_0 := (HB.out.cell (World.block_lt_of_cell? w _ hx396_0)).trans hx396_0; replace hx396_1 := (HB.out.cell (World.block_lt_of_cell? w _ hx396_1)).trans hx396_1; replace hx396_2 := (HB.out.cell (World.block_lt_of_cell? w _ hx396_2)).trans hx396_2; replace hx396_3 := (HB.out.cell (World.block_lt_of_cell? w _ hx396_3)).trans hx396_3; replace hx396_4 := (HB.out.cell (World.block_lt_of_cell? w _ hx396_4)).trans hx396_4; replace hx396_0 := (cell_far (p := ⟨gb394, 0, none⟩) (by first | (rw [add_block]; exact hn396_0) | (show (Addr.add _ _).block ≠ _; rw [add_block]; exact hn396_0) | exact hn396_0) (.int .i64 ((rd_T50 l1 x7_2).f1.f0))).trans hx396_0; replace hx396_1 := (cell_far (p := ⟨gb394, 0, none⟩) (by first | (rw [add_block]; exact hn396_0) | (show (Addr.add _ _).block ≠ _; rw [add_block]; exact hn396_0) | exact hn396_0) (.int .i64 ((rd_T50 l1 x7_2).f1.f0))).trans hx396_1; replace hx396_2 := (cell_far (p := ⟨gb394, 0, none⟩) (by first | (rw [add_block]; exact hn396_0) | (show (Addr.add _ _).block ≠ _; rw [add_block]; exact hn396_0) | exact hn396_0) (.int .i64 ((rd_T50 l1 x7_2).f1.f0))).trans hx396_2; replace hx396_3 := (cell_far (p := ⟨gb394, 0, none⟩) (by first | (rw [add_block]; exact hn396_0) | (show (Addr.add _ _).block ≠ _; rw [add_block]; exact hn396_0) | exact hn396_0) (.int .i64 ((rd_T50 l1 x7_2).f1.f0))).trans hx396_3; replace hx396_4 := (cell_far (p := ⟨gb394, 0, none⟩) (by first | (rw [add_block]; exact hn396_0) | (show (Addr.add _ _).block ≠ _; rw [add_block]; exact hn396_0) | exact hn396_0) (.int .i64 ((rd_T50 l1 x7_2).f1.f0))).trans hx396_4; replace hx396_0 := (cell_far (p := ⟨gb394, 1, none⟩) (by first | (rw [add_block]; exact hn396_1) | (show (Addr.add _ _).block ≠ _; rw [add_block]; exact hn396_1) | exact hn396_1) (.int .i64 ((rd_T50 l1 x7_2).f1.f1))).trans hx396_0; replace hx396_1 := (cell_far (p := ⟨gb394, 1, none⟩) (by first | (rw [add_block]; exact hn396_1) | (show (Addr.add _ _).block ≠ _; rw [add_block]; exact hn396_1) | exact hn396_1) (.int .i64 ((rd_T50 l1 x7_2).f1.f1))).trans hx396_1; replace hx396_2 := (cell_far (p := ⟨gb394, 1, none⟩) (by first | (rw [add_block]; exact hn396_1) | (show (Addr.add _ _).block ≠ _; rw [add_block]; exact hn396_1) | exact hn396_1) (.int .i64 ((rd_T50 l1 x7_2).f1.f1))).trans hx396_2; replace hx396_3 := (cell_far (p := ⟨gb394, 1, none⟩) (by first | (rw [add_block]; exact hn396_1) | (show (Addr.add _ _).block ≠ _; rw [add_block]; exact hn396_1) | exact hn396_1) (.int .i64 ((rd_T50 l1 x7_2).f1.f1))).trans hx396_3; replace hx396_4 := (cell_far (p := ⟨gb394, 1, none⟩) (by first | (rw [add_block]; exact hn396_1) | (show (Addr.add _ _).block ≠ _; rw [add_block]; exact hn396_1) | exact hn396_1) (.int .i64 ((rd_T50 l1 x7_2).f1.f1))).trans hx396_4; replace hx396_0 := (cell_far (p := ⟨gb394, 2, none⟩) (by first | (rw [add_block]; exact hn396_2) | (show (Addr.add _ _).block ≠ _; rw [add_block]; exact hn396_2) | exact hn396_2) (.int .i64 ((rd_T50 l1 x7_2).f1.f2))).trans hx396_0; replace hx396_1 := (cell_far (p := ⟨gb394, 2, none⟩) (by first | (rw [add_block]; exact hn396_2) | (show (Addr.add _ _).block ≠ _; rw [add_block]; exact hn396_2) | exact hn396_2) (.int .i64 ((rd_T50 l1 x7_2).f1.f2))).trans hx396_1; replace hx396_2 := (cell_far (p := ⟨gb394, 2, none⟩) (by first | (rw [add_block]; exact hn396_2) | (show (Addr.add _ _).block ≠ _; rw [add_block]; exact hn396_2) | exact hn396_2) (.int .i64 ((rd_T50 l1 x7_2).f1.f2))).trans hx396_2; replace hx396_3 := (cell_far (p := ⟨gb394, 2, none⟩) (by first | (rw [add_block]; exact hn396_2) | (show (Addr.add _ _).block ≠ _; rw [add_block]; exact hn396_2) | exact hn396_2) (.int .i64 ((rd_T50 l1 x7_2).f1.f2))).trans hx396_3; replace hx396_4 := (cell_far (p := ⟨gb394, 2, none⟩) (by first | (rw [add_block]; exact hn396_2) | (show (Addr.add _ _).block ≠ _; rw [add_block]; exact hn396_2) | exact hn396_2) (.int .i64 ((rd_T50 l1 x7_2).f1.f2))).trans hx396_4; replace hx396_0 := (cell_far (p := ⟨gb394, 3, none⟩) (by first | (rw [add_block]; exact hn396_3) | (show (Addr.add _ _).block ≠ _; rw [add_block]; exact hn396_3) | exact hn396_3) (.int .i64 ((rd_T50 l1 x7_2).f1.f3))).trans hx396_0; replace hx396_1 := (cell_far (p := ⟨gb394, 3, none⟩) (by first | (rw [add_block]; exact hn396_3) | (show (Addr.add _ _).block ≠ _; rw [add_block]; exact hn396_3) | exact hn396_3) (.int .i64 ((rd_T50 l1 x7_2).f1.f3))).trans hx396_1; replace hx396_2 := (cell_far (p := ⟨gb394, 3, none⟩) (by first | (rw [add_block]; exact hn396_3) | (show (Addr.add _ _).block ≠ _; rw [add_block]; exact hn396_3) | exact hn396_3) (.int .i64 ((rd_T50 l1 x7_2).f1.f3))).trans hx396_2; replace hx396_3 := (cell_far (p := ⟨gb394, 3, none⟩) (by first | (rw [add_block]; exact hn396_3) | (show (Addr.add _ _).block ≠ _; rw [add_block]; exact hn396_3) | exact hn396_3) (.int .i64 ((rd_T50 l1 x7_2).f1.f3))).trans hx396_3; replace hx396_4 := (cell_far (p := ⟨gb394, 3, none⟩) (by first | (rw [add_block]; exact hn396_3) | (show (Addr.add _ _).block ≠ _; rw [add_block]; exact hn396_3) | exact hn396_3) (.int .i64 ((rd_T50 l1 x7_2).f1.f3))).trans hx396_4; clear hn396_0; clear hn396_1; clear hn396_2; clear hn396_3; replace p396 := eq_true p396; replace q396 := eq_true q396))
         (try simp only [Act.put, List.setIfInBounds_toArray, List.set_cons_zero, List.set_cons_succ])
         go_cut [10, 11] (fun v10 v11 wc => ∃ (kq : Nat) (x10_16 : List (S28)) (x11_16 : Int), v11 = .int .i64 x11_16 ∧ Aside0 (skiarealaw52_ClosureHeld.j2 kq x0_2 l1 x7_2 t395 x10_16 x11_16 a2_0 a2_1 a2_2 ((rd_T50 l1 x7_2).f1.f0) ((rd_T50 l1 x7_2).f1.f1) ((rd_T50 l1 x7_2).f1.f2) ((rd_T50 l1 x7_2).f1.f3) = some r) ∧ Aside0 (kq ≤ k2) ∧ Aside0 (Kd.V k28 28 wc w.heap.size (fun k_ => (P0_ k_ ∨ w.heap.size ≤ k_) ∧ some k_ ≠ (v10 : Value).ownBlock ∧ k_ ≠ gb390 ∧ k_ ≠ gb394) (.slice Ao22 x0_2.length co22) x0_2) ∧ Aside0 (Kd.R k28 28 wc w.heap.size (fun k_ => (w.heap.size ≤ k_) ∧ k_ ≠ gb394) v10 x10_16) ∧ Aside0 (wc.heap[gb390]? = some (.cells #[.int .i64 a2_0, .int .i64 a2_1, .int .i64 a2_2] 30 (0, 0))) ∧ Aside0 (wc.heap[gb394]? = some (.cells #[.int .i64 ((rd_T50 l1 x7_2).f1.f0), .int .i64 ((rd_T50 l1 x7_2).f1.f1), .int .i64 ((rd_T50 l1 x7_2).f1.f2), .int .i64 ((rd_T50 l1 x7_2).f1.f3)] 28 (0, 0))) ∧ Aside0 (Below w.heap.size w wc))
         case first =>
          have H := HC17.out; clear HC17; obtain ⟨bq23, hbq23⟩ : ∃ b_ : Bool, b_ = ((rd_T50 l1 x7_2).f0) := ⟨_, rfl⟩; replace H : (if bq23 = true then ((closure_Open.f x0_2 ((rd_T50 l1 x7_2).f1.f0) ((rd_T50 l1 x7_2).f1.f1) ((rd_T50 l1 x7_2).f1.f2)).bind fun bt397 => (skiarealaw52_ClosureHeld.j2 k2 x0_2 l1 x7_2 t395 bt397.1 bt397.2 a2_0 a2_1 a2_2 ((rd_T50 l1 x7_2).f1.f0) ((rd_T50 l1 x7_2).f1.f1) ((rd_T50 l1 x7_2).f1.f2) ((rd_T50 l1 x7_2).f1.f3))) else ((closure_Close.f x0_2 ((rd_T50 l1 x7_2).f1.f0) ((rd_T50 l1 x7_2).f1.f1) ((rd_T50 l1 x7_2).f1.f2) ((rd_T50 l1 x7_2).f1.f3)).bind fun bt401 => (skiarealaw52_ClosureHeld.j2 k2 x0_2 l1 x7_2 t395 bt401.1 bt401.2 a2_0 a2_1 a2_2 ((rd_T50 l1 x7_2).f1.f0) ((rd_T50 l1 x7_2).f1.f1) ((rd_T50 l1 x7_2).f1.f2) ((rd_T50 l1 x7_2).f1.f3)))) = some r := by rw [← hbq23] at H; exact H
          have Nbq23 := Aside0.mk hbq23; clear hbq23; (try rw [← Nbq23.out])
          by_cases c24 : bq23 = true
          ·
           subst c24; have H1 : ((closure_Open.f x0_2 ((rd_T50 l1 x7_2).f1.f0) ((rd_T50 l1 x7_2).f1.f1) ((rd_T50 l1 x7_2).f1.f2)).bind fun bt397 => (skiarealaw52_ClosureHeld.j2 k2 x0_2 l1 x7_2 t395 bt397.1 bt397.2 a2_0 a2_1 a2_2 ((rd_T50 l1 x7_2).f1.f0) ((rd_T50 l1 x7_2).f1.f1) ((rd_T50 l1 x7_2).f1.f2) ((rd_T50 l1 x7_2).f1.f3))) = some r := by rw [if_pos rfl] at H; exact H
           clear H; have H := H1; clear H1; replace H := Option.bind_eq_some_iff.mp H; obtain ⟨⟨t397, t398⟩, A250, H⟩ := H; replace H : (skiarealaw52_ClosureHeld.j2 k2 x0_2 l1 x7_2 t395 t397 t398 a2_0 a2_1 a2_2 ((rd_T50 l1 x7_2).f1.f0) ((rd_T50 l1 x7_2).f1.f1) ((rd_T50 l1 x7_2).f1.f2) ((rd_T50 l1 x7_2).f1.f3)) = some r := H; have A25 := Aside0.mk A250; clear A250; have H' := Aside0.mk H; clear H; have hnb26 := NB394_390.out; have hnc26 := NB390_394.out; have hcz27_0 : w18.cell? ⟨gb394, 0, none⟩ = some (.int .i64 0) := (blk_cell BK394.out 0).trans rfl; have hcz27_1 : w18.cell? ⟨gb394, 1, none⟩ = some (.int .i64 0) := (blk_cell BK394.out 1).trans rfl; have hcz27_2 : w18.cell? ⟨gb394, 2, none⟩ = some (.int .i64 0) := (blk_cell BK394.out 2).trans rfl; have hcz27_3 : w18.cell? ⟨gb394, 3, none⟩ = some (.int .i64 0) := (blk_cell BK394.out 3).trans rfl; have hfz27_0 := blk_frozen BK394.out 0; have hfz27_1 := blk_frozen BK394.out 1; have hfz27_2 := blk_frozen BK394.out 2; have hfz27_3 := blk_frozen BK394.out 3
           go_wp2_with (first | ((with_reducible refine gate_callee (f := 15) rfl ?_); refine goesL_ (some 56) rfl rfl Try.func15 (by kernel_rfl) rfl #[.slice Ao22 x0_2.length co22, .int .i64 ((rd_T50 l1 x7_2).f1.f0), .int .i64 ((rd_T50 l1 x7_2).f1.f1), .int .i64 ((rd_T50 l1 x7_2).f1.f2)] rfl (by (try simp only [List.map_toArray, List.map_cons, List.map_nil]); first | done | rfl | (simp only [List.length_drop, List.length_take]; rfl)) ?_; (with_reducible refine (closure_Open.calls _ _ x0_2 ((rd_T50 l1 x7_2).f1.f0) ((rd_T50 l1 x7_2).f1.f1) ((rd_T50 l1 x7_2).f1.f2) t397 t398 _ ?side1 ?side2 A25.out).mono ?_); (case side1 => refine (Kd.V_reads' (e := 28) (base := w.heap.size) (ok := fun k_ => (((P0_ k_ ∨ w.heap.size ≤ k_) ∧ k_ ≠ gb390) ∧ k_ ≠ gb394)) (n := x0_2.length) (c := co22) ?_).2.2; exact (by (with_reducible repeat (first | apply Kd.V_alloc | apply Kd.V_drewN | apply Kd.V_drew)); exact (Kd.V_mono (Kd.V_far (p := ⟨gb394, 3, none⟩) (Kd.V_far (p := ⟨gb394, 2, none⟩) (Kd.V_far (p := ⟨gb394, 1, none⟩) (Kd.V_far (p := ⟨gb394, 0, none⟩) (Kd.V_mono HO_0.out (fun k_ hk => (⟨hk, hk.2⟩ : _ ∧ k_ ≠ gb394))) (fun _ hk => hk.2) (.int .i64 ((rd_T50 l1 x7_2).f1.f0))) (fun _ hk => hk.2) (.int .i64 ((rd_T50 l1 x7_2).f1.f1))) (fun _ hk => hk.2) (.int .i64 ((rd_T50 l1 x7_2).f1.f2))) (fun _ hk => hk.2) (.int .i64 ((rd_T50 l1 x7_2).f1.f3))) (fun _ h_ => h_.1)))); (case side2 => exact (Kd.V_reads' HO_0.out).2.1); rintro e w28 ⟨v399, rfl, ho0, hb⟩; refine ⟨_, rfl, ?_⟩; have n0_ := Aside0.mk (Kd.V_elder' (by (with_reducible repeat (first | apply Kd.V_alloc | apply Kd.V_drewN | apply Kd.V_drew)); exact (Kd.V_mono (Kd.V_far (p := ⟨gb394, 3, none⟩) (Kd.V_far (p := ⟨gb394, 2, none⟩) (Kd.V_far (p := ⟨gb394, 1, none⟩) (Kd.V_far (p := ⟨gb394, 0, none⟩) (Kd.V_mono HO_0.out (fun k_ hk => (⟨hk, hk.2⟩ : _ ∧ k_ ≠ gb394))) (fun _ hk => hk.2) (.int .i64 ((rd_T50 l1 x7_2).f1.f0))) (fun _ hk => hk.2) (.int .i64 ((rd_T50 l1 x7_2).f1.f1))) (fun _ hk => hk.2) (.int .i64 ((rd_T50 l1 x7_2).f1.f2))) (fun _ hk => hk.2) (.int .i64 ((rd_T50 l1 x7_2).f1.f3))) (fun _ h_ => h_.1))) (Kd.R_base ho0) hb); have n1_ := Aside0.mk (Kd.R_lower (Kd.R_newB (Kd.R_newM (M := fun k_ => (w.heap.size ≤ k_)) ho0 (below_size (by repeat (first | (with_reducible first | exact HB.out | apply lA_ | apply lN_ | apply lD_ | refine lS_ ?_ GE390.out | refine lS_ ?_ GE394.out) | exact HB.out))) (fun k_ h_ => h_)) (g := gb394) (o := .cells #[.int .i64 ((rd_T50 l1 x7_2).f1.f0), .int .i64 ((rd_T50 l1 x7_2).f1.f1), .int .i64 ((rd_T50 l1 x7_2).f1.f2), .int .i64 ((rd_T50 l1 x7_2).f1.f3)] 28 (0, 0)) (by (with_reducible repeat (first | refine bN_ ?_ _ | refine bD_ ?_ | refine bA_ ?_ _)); refine blk_put (cs := #[.int .i64 ((rd_T50 l1 x7_2).f1.f0), .int .i64 ((rd_T50 l1 x7_2).f1.f1), .int .i64 ((rd_T50 l1 x7_2).f1.f2), .int .i64 0]) ?_ 3 _ rfl; (with_reducible repeat (first | refine bN_ ?_ _ | refine bD_ ?_ | refine bA_ ?_ _)); refine blk_put (cs := #[.int .i64 ((rd_T50 l1 x7_2).f1.f0), .int .i64 ((rd_T50 l1 x7_2).f1.f1), .int .i64 0, .int .i64 0]) ?_ 2 _ rfl; (with_reducible repeat (first | refine bN_ ?_ _ | refine bD_ ?_ | refine bA_ ?_ _)); refine blk_put (cs := #[.int .i64 ((rd_T50 l1 x7_2).f1.f0), .int .i64 0, .int .i64 0, .int .i64 0]) ?_ 1 _ rfl; (with_reducible repeat (first | refine bN_ ?_ _ | refine bD_ ?_ | refine bA_ ?_ _)); refine blk_put (cs := #[.int .i64 0, .int .i64 0, .int .i64 0, .int .i64 0]) ?_ 0 _ rfl; (with_reducible repeat (first | refine bN_ ?_ _ | refine bD_ ?_ | refine bA_ ?_ _)); exact BK394.out)) (below_size (by repeat (first | (with_reducible first | exact HB.out | apply lA_ | apply lN_ | apply lD_ | refine lS_ ?_ GE390.out | refine lS_ ?_ GE394.out) | exact HB.out)))); have n2_ := Aside0.mk (blk_below (g := gb390) (o := .cells #[.int .i64 a2_0, .int .i64 a2_1, .int .i64 a2_2] 30 (0, 0)) (by (with_reducible repeat (first | refine bN_ ?_ _ | refine bD_ ?_ | refine bA_ ?_ _)); refine blk_far ?_ NB390_394.out _; (with_reducible repeat (first | refine bN_ ?_ _ | refine bD_ ?_ | refine bA_ ?_ _)); refine blk_far ?_ NB390_394.out _; (with_reducible repeat (first | refine bN_ ?_ _ | refine bD_ ?_ | refine bA_ ?_ _)); refine blk_far ?_ NB390_394.out _; (with_reducible repeat (first | refine bN_ ?_ _ | refine bD_ ?_ | refine bA_ ?_ _)); refine blk_far ?_ NB390_394.out _; (with_reducible repeat (first | refine bN_ ?_ _ | refine bD_ ?_ | refine bA_ ?_ _)); exact BK390.out) hb); have n3_ := Aside0.mk (blk_below (g := gb394) (o := .cells #[.int .i64 ((rd_T50 l1 x7_2).f1.f0), .int .i64 ((rd_T50 l1 x7_2).f1.f1), .int .i64 ((rd_T50 l1 x7_2).f1.f2), .int .i64 ((rd_T50 l1 x7_2).f1.f3)] 28 (0, 0)) (by (with_reducible repeat (first | refine bN_ ?_ _ | refine bD_ ?_ | refine bA_ ?_ _)); refine blk_put (cs := #[.int .i64 ((rd_T50 l1 x7_2).f1.f0), .int .i64 ((rd_T50 l1 x7_2).f1.f1), .int .i64 ((rd_T50 l1 x7_2).f1.f2), .int .i64 0]) ?_ 3 _ rfl; (with_reducible repeat (first | refine bN_ ?_ _ | refine bD_ ?_ | refine bA_ ?_ _)); refine blk_put (cs := #[.int .i64 ((rd_T50 l1 x7_2).f1.f0), .int .i64 ((rd_T50 l1 x7_2).f1.f1), .int .i64 0, .int .i64 0]) ?_ 2 _ rfl; (with_reducible repeat (first | refine bN_ ?_ _ | refine bD_ ?_ | refine bA_ ?_ _)); refine blk_put (cs := #[.int .i64 ((rd_T50 l1 x7_2).f1.f0), .int .i64 0, .int .i64 0, .int .i64 0]) ?_ 1 _ rfl; (with_reducible repeat (first | refine bN_ ?_ _ | refine bD_ ?_ | refine bA_ ?_ _)); refine blk_put (cs := #[.int .i64 0, .int .i64 0, .int .i64 0, .int .i64 0]) ?_ 0 _ rfl; (with_reducible repeat (first | refine bN_ ?_ _ | refine bD_ ?_ | refine bA_ ?_ _)); exact BK394.out) hb); have n4_ := Aside0.mk (below_step (by repeat (first | (with_reducible first | exact HB.out | apply lA_ | apply lN_ | apply lD_ | refine lS_ ?_ GE390.out | refine lS_ ?_ GE394.out) | exact HB.out)) hb); clear HO_0; clear BK390; clear BK394; clear HB; have HO_0 := n0_; have HO400 := n1_; have BK390 := n2_; have BK394 := n3_; have HB := n4_; clear n0_ n1_ n2_ n3_ n4_; (try clear hb); (try clear hb2); (try clear hk); (try clear hi); (try clear ho0)))
           go_meet
           case rel => exact ⟨_, (t397), (t398), (by first | rfl | (simp; done) | (simp [*]; done)), H', ⟨by have := HJ5.out; have := HK2.out; first | omega | exact Nat.le_refl _⟩, ⟨by (with_reducible repeat (first | apply Kd.V_alloc | apply Kd.V_drewN | apply Kd.V_drew)); exact Kd.V_mono HO_0.out (fun _ hk => ⟨hk.1.1.1, ⟨hk.2, ⟨hk.1.1.2, hk.1.2⟩⟩⟩)⟩, ⟨by (with_reducible repeat (first | apply Kd.rA_ | apply Kd.rN_ | apply Kd.rD_)); exact Kd.R_mono HO400.out (fun _ hk => ⟨hk.1.1, hk.2⟩)⟩, ⟨by (with_reducible repeat (first | refine bN_ ?_ _ | refine bD_ ?_ | refine bA_ ?_ _)); exact BK390.out⟩, ⟨by (with_reducible repeat (first | refine bN_ ?_ _ | refine bD_ ?_ | refine bA_ ?_ _)); exact BK394.out⟩, ⟨by repeat (first | (with_reducible first | exact HB.out | apply lA_ | apply lN_ | apply lD_ | refine lS_ ?_ GE390.out | refine lS_ ?_ GE394.out) | exact HB.out)⟩⟩
          ·
           replace c24 := Bool.eq_false_iff.mpr c24; subst c24; have H1 : ((closure_Close.f x0_2 ((rd_T50 l1 x7_2).f1.f0) ((rd_T50 l1 x7_2).f1.f1) ((rd_T50 l1 x7_2).f1.f2) ((rd_T50 l1 x7_2).f1.f3)).bind fun bt401 => (skiarealaw52_ClosureHeld.j2 k2 x0_2 l1 x7_2 t395 bt401.1 bt401.2 a2_0 a2_1 a2_2 ((rd_T50 l1 x7_2).f1.f0) ((rd_T50 l1 x7_2).f1.f1) ((rd_T50 l1 x7_2).f1.f2) ((rd_T50 l1 x7_2).f1.f3))) = some r := by rw [if_neg (show ¬ (false = true) by decide)] at H; exact H
           clear H; have H := H1; clear H1; replace H := Option.bind_eq_some_iff.mp H; obtain ⟨⟨t401, t404⟩, A290, H⟩ := H; replace H : (skiarealaw52_ClosureHeld.j2 k2 x0_2 l1 x7_2 t395 t401 t404 a2_0 a2_1 a2_2 ((rd_T50 l1 x7_2).f1.f0) ((rd_T50 l1 x7_2).f1.f1) ((rd_T50 l1 x7_2).f1.f2) ((rd_T50 l1 x7_2).f1.f3)) = some r := H; have A29 := Aside0.mk A290; clear A290; have H' := Aside0.mk H; clear H; have hnb30 := NB394_390.out; have hnc30 := NB390_394.out; have hcz31_0 : w18.cell? ⟨gb394, 0, none⟩ = some (.int .i64 0) := (blk_cell BK394.out 0).trans rfl; have hcz31_1 : w18.cell? ⟨gb394, 1, none⟩ = some (.int .i64 0) := (blk_cell BK394.out 1).trans rfl; have hcz31_2 : w18.cell? ⟨gb394, 2, none⟩ = some (.int .i64 0) := (blk_cell BK394.out 2).trans rfl; have hcz31_3 : w18.cell? ⟨gb394, 3, none⟩ = some (.int .i64 0) := (blk_cell BK394.out 3).trans rfl; have hfz31_0 := blk_frozen BK394.out 0; have hfz31_1 := blk_frozen BK394.out 1; have hfz31_2 := blk_frozen BK394.out 2; have hfz31_3 := blk_frozen BK394.out 3
           go_wp2_with (first | ((with_reducible refine gate_callee (f := 13) rfl ?_); refine goesL_ (some 62) rfl rfl Try.func13 (by kernel_rfl) rfl #[.slice Ao22 x0_2.length co22, .agg #[.int .i64 ((rd_T50 l1 x7_2).f1.f0), .int .i64 ((rd_T50 l1 x7_2).f1.f1), .int .i64 ((rd_T50 l1 x7_2).f1.f2), .int .i64 ((rd_T50 l1 x7_2).f1.f3)]] rfl (by (try simp only [List.map_toArray, List.map_cons, List.map_nil]); first | done | rfl | (simp only [List.length_drop, List.length_take]; rfl)) ?_; (with_reducible refine (closure_Close.calls _ _ x0_2 ((rd_T50 l1 x7_2).f1.f0) ((rd_T50 l1 x7_2).f1.f1) ((rd_T50 l1 x7_2).f1.f2) ((rd_T50 l1 x7_2).f1.f3) t401 t404 _ ?side1 ?side2 A29.out).mono ?_); (case side1 => refine (Kd.V_reads' (e := 28) (base := w.heap.size) (ok := fun k_ => (((P0_ k_ ∨ w.heap.size ≤ k_) ∧ k_ ≠ gb390) ∧ k_ ≠ gb394)) (n := x0_2.length) (c := co22) ?_).2.2; exact (by (with_reducible repeat (first | apply Kd.V_alloc | apply Kd.V_drewN | apply Kd.V_drew)); exact (Kd.V_mono (Kd.V_far (p := ⟨gb394, 3, none⟩) (Kd.V_far (p := ⟨gb394, 2, none⟩) (Kd.V_far (p := ⟨gb394, 1, none⟩) (Kd.V_far (p := ⟨gb394, 0, none⟩) (Kd.V_mono HO_0.out (fun k_ hk => (⟨hk, hk.2⟩ : _ ∧ k_ ≠ gb394))) (fun _ hk => hk.2) (.int .i64 ((rd_T50 l1 x7_2).f1.f0))) (fun _ hk => hk.2) (.int .i64 ((rd_T50 l1 x7_2).f1.f1))) (fun _ hk => hk.2) (.int .i64 ((rd_T50 l1 x7_2).f1.f2))) (fun _ hk => hk.2) (.int .i64 ((rd_T50 l1 x7_2).f1.f3))) (fun _ h_ => h_.1)))); (case side2 => exact (Kd.V_reads' HO_0.out).2.1); rintro e w32 ⟨v402, rfl, ho0, hb⟩; refine ⟨_, rfl, ?_⟩; have n0_ := Aside0.mk (Kd.V_elder' (by (with_reducible repeat (first | apply Kd.V_alloc | apply Kd.V_drewN | apply Kd.V_drew)); exact (Kd.V_mono (Kd.V_far (p := ⟨gb394, 3, none⟩) (Kd.V_far (p := ⟨gb394, 2, none⟩) (Kd.V_far (p := ⟨gb394, 1, none⟩) (Kd.V_far (p := ⟨gb394, 0, none⟩) (Kd.V_mono HO_0.out (fun k_ hk => (⟨hk, hk.2⟩ : _ ∧ k_ ≠ gb394))) (fun _ hk => hk.2) (.int .i64 ((rd_T50 l1 x7_2).f1.f0))) (fun _ hk => hk.2) (.int .i64 ((rd_T50 l1 x7_2).f1.f1))) (fun _ hk => hk.2) (.int .i64 ((rd_T50 l1 x7_2).f1.f2))) (fun _ hk => hk.2) (.int .i64 ((rd_T50 l1 x7_2).f1.f3))) (fun _ h_ => h_.1))) (Kd.R_base ho0) hb); have n1_ := Aside0.mk (Kd.R_lower (Kd.R_newB (Kd.R_newM (M := fun k_ => (w.heap.size ≤ k_)) ho0 (below_size (by repeat (first | (with_reducible first | exact HB.out | apply lA_ | apply lN_ | apply lD_ | refine lS_ ?_ GE390.out | refine lS_ ?_ GE394.out) | exact HB.out))) (fun k_ h_ => h_)) (g := gb394) (o := .cells #[.int .i64 ((rd_T50 l1 x7_2).f1.f0), .int .i64 ((rd_T50 l1 x7_2).f1.f1), .int .i64 ((rd_T50 l1 x7_2).f1.f2), .int .i64 ((rd_T50 l1 x7_2).f1.f3)] 28 (0, 0)) (by (with_reducible repeat (first | refine bN_ ?_ _ | refine bD_ ?_ | refine bA_ ?_ _)); refine blk_put (cs := #[.int .i64 ((rd_T50 l1 x7_2).f1.f0), .int .i64 ((rd_T50 l1 x7_2).f1.f1), .int .i64 ((rd_T50 l1 x7_2).f1.f2), .int .i64 0]) ?_ 3 _ rfl; (with_reducible repeat (first | refine bN_ ?_ _ | refine bD_ ?_ | refine bA_ ?_ _)); refine blk_put (cs := #[.int .i64 ((rd_T50 l1 x7_2).f1.f0), .int .i64 ((rd_T50 l1 x7_2).f1.f1), .int .i64 0, .int .i64 0]) ?_ 2 _ rfl; (with_reducible repeat (first | refine bN_ ?_ _ | refine bD_ ?_ | refine bA_ ?_ _)); refine blk_put (cs := #[.int .i64 ((rd_T50 l1 x7_2).f1.f0), .int .i64 0, .int .i64 0, .int .i64 0]) ?_ 1 _ rfl; (with_reducible repeat (first | refine bN_ ?_ _ | refine bD_ ?_ | refine bA_ ?_ _)); refine blk_put (cs := #[.int .i64 0, .int .i64 0, .int .i64 0, .int .i64 0]) ?_ 0 _ rfl; (with_reducible repeat (first | refine bN_ ?_ _ | refine bD_ ?_ | refine bA_ ?_ _)); exact BK394.out)) (below_size (by repeat (first | (with_reducible first | exact HB.out | apply lA_ | apply lN_ | apply lD_ | refine lS_ ?_ GE390.out | refine lS_ ?_ GE394.out) | exact HB.out)))); have n2_ := Aside0.mk (blk_below (g := gb390) (o := .cells #[.int .i64 a2_0, .int .i64 a2_1, .int .i64 a2_2] 30 (0, 0)) (by (with_reducible repeat (first | refine bN_ ?_ _ | refine bD_ ?_ | refine bA_ ?_ _)); refine blk_far ?_ NB390_394.out _; (with_reducible repeat (first | refine bN_ ?_ _ | refine bD_ ?_ | refine bA_ ?_ _)); refine blk_far ?_ NB390_394.out _; (with_reducible repeat (first | refine bN_ ?_ _ | refine bD_ ?_ | refine bA_ ?_ _)); refine blk_far ?_ NB390_394.out _; (with_reducible repeat (first | refine bN_ ?_ _ | refine bD_ ?_ | refine bA_ ?_ _)); refine blk_far ?_ NB390_394.out _; (with_reducible repeat (first | refine bN_ ?_ _ | refine bD_ ?_ | refine bA_ ?_ _)); exact BK390.out) hb); have n3_ := Aside0.mk (blk_below (g := gb394) (o := .cells #[.int .i64 ((rd_T50 l1 x7_2).f1.f0), .int .i64 ((rd_T50 l1 x7_2).f1.f1), .int .i64 ((rd_T50 l1 x7_2).f1.f2), .int .i64 ((rd_T50 l1 x7_2).f1.f3)] 28 (0, 0)) (by (with_reducible repeat (first | refine bN_ ?_ _ | refine bD_ ?_ | refine bA_ ?_ _)); refine blk_put (cs := #[.int .i64 ((rd_T50 l1 x7_2).f1.f0), .int .i64 ((rd_T50 l1 x7_2).f1.f1), .int .i64 ((rd_T50 l1 x7_2).f1.f2), .int .i64 0]) ?_ 3 _ rfl; (with_reducible repeat (first | refine bN_ ?_ _ | refine bD_ ?_ | refine bA_ ?_ _)); refine blk_put (cs := #[.int .i64 ((rd_T50 l1 x7_2).f1.f0), .int .i64 ((rd_T50 l1 x7_2).f1.f1), .int .i64 0, .int .i64 0]) ?_ 2 _ rfl; (with_reducible repeat (first | refine bN_ ?_ _ | refine bD_ ?_ | refine bA_ ?_ _)); refine blk_put (cs := #[.int .i64 ((rd_T50 l1 x7_2).f1.f0), .int .i64 0, .int .i64 0, .int .i64 0]) ?_ 1 _ rfl; (with_reducible repeat (first | refine bN_ ?_ _ | refine bD_ ?_ | refine bA_ ?_ _)); refine blk_put (cs := #[.int .i64 0, .int .i64 0, .int .i64 0, .int .i64 0]) ?_ 0 _ rfl; (with_reducible repeat (first | refine bN_ ?_ _ | refine bD_ ?_ | refine bA_ ?_ _)); exact BK394.out) hb); have n4_ := Aside0.mk (below_step (by repeat (first | (with_reducible first | exact HB.out | apply lA_ | apply lN_ | apply lD_ | refine lS_ ?_ GE390.out | refine lS_ ?_ GE394.out) | exact HB.out)) hb); clear HO_0; clear BK390; clear BK394; clear HB; have HO_0 := n0_; have HO403 := n1_; have BK390 := n2_; have BK394 := n3_; have HB := n4_; clear n0_ n1_ n2_ n3_ n4_; (try clear hb); (try clear hb2); (try clear hk); (try clear hi); (try clear ho0)))
           go_meet
           case rel => exact ⟨_, (t401), (t404), (by first | rfl | (simp; done) | (simp [*]; done)), H', ⟨by have := HJ5.out; have := HK2.out; first | omega | exact Nat.le_refl _⟩, ⟨by (with_reducible repeat (first | apply Kd.V_alloc | apply Kd.V_drewN | apply Kd.V_drew)); exact Kd.V_mono HO_0.out (fun _ hk => ⟨hk.1.1.1, ⟨hk.2, ⟨hk.1.1.2, hk.1.2⟩⟩⟩)⟩, ⟨by (with_reducible repeat (first | apply Kd.rA_ | apply Kd.rN_ | apply Kd.rD_)); exact Kd.R_mono HO403.out (fun _ hk => ⟨hk.1.1, hk.2⟩)⟩, ⟨by (with_reducible repeat (first | refine bN_ ?_ _ | refine bD_ ?_ | refine bA_ ?_ _)); exact BK390.out⟩, ⟨by (with_reducible repeat (first | refine bN_ ?_ _ | refine bD_ ?_ | refine bA_ ?_ _)); exact BK394.out⟩, ⟨by repeat (first | (with_reducible first | exact HB.out | apply lA_ | apply lN_ | apply lD_ | refine lS_ ?_ GE390.out | refine lS_ ?_ GE394.out) | exact HB.out)⟩⟩
         case rest =>
          clear HC17; try clear c1
          try clear c2
          try clear p2
          try clear q2
          try clear c3
          try clear p3
          try clear q3
          try clear hx3
          try clear c5
          try clear c6
          try clear c9
          try clear c10
          try clear c12
          try clear c13
          try clear c14
          try clear c14b0
          try clear c15
          try clear c15b0
          try clear c19
          try clear q23
          try clear c24
          try clear c26
          try clear c30
          try clear hcz20_0
          try clear hcz20_1
          try clear hcz20_2
          try clear hcz20_3
          try clear hcz21_0
          try clear hcz21_1
          try clear hcz21_2
          try clear hcz27_0
          try clear hcz27_1
          try clear hcz27_2
          try clear hcz27_3
          try clear hcz31_0
          try clear hcz31_1
          try clear hcz31_2
          try clear hcz31_3
          try clear hfz20_0
          try clear hfz20_1
          try clear hfz20_2
          try clear hfz20_3
          try clear hfz21_0
          try clear hfz21_1
          try clear hfz21_2
          try clear hfz27_0
          try clear hfz27_1
          try clear hfz27_2
          try clear hfz27_3
          try clear hfz31_0
          try clear hfz31_1
          try clear hfz31_2
          try clear hfz31_3
          try clear hx393_0
          try clear hx393_1
          try clear hx393_2
          try clear hx393_3
          try clear hx393_4
          try clear hx396_0
          try clear hx396_1
          try clear hx396_2
          try clear hx396_3
          try clear hx396_4
          try clear p2
          try clear p393
          try clear p396
          try clear q393
          try clear q396
          obtain ⟨kq, x10_16, x11_16, rfl, HA, HJ16, HO_0, HO_10, BK390, BK394, HB⟩ := hcut
          cases kq with
          | zero => exact absurd HA.out (by simp [skiarealaw52_ClosureHeld.j2])
          | succ kj16 =>
           have H := HA.out; clear HA; simp only [skiarealaw52_ClosureHeld.j2] at H
           by_cases c33 : x11_16 = 0
           ·
            rw [if_pos c33] at H
            have c33b0 : (x11_16 == 0) = true := beq_iff_eq.mpr c33; have c33b1 : (x11_16 != 0) = false := bne_eq_false_iff_eq.mpr c33; clear c33; replace H := Option.bind_eq_some_iff.mp H; obtain ⟨t405, A340, H⟩ := H; replace H : (if ((rd_T50 l1 x7_2).f1.f0) = a2_0 then (if ((rd_T50 l1 x7_2).f1.f1) = a2_1 then (skiarealaw52_ClosureHeld.j3 kj16 x0_2 l1 x7_2 t395 x10_16 t405 (((rd_T50 l1 x7_2).f1.f2) == a2_2) a2_0 a2_1 a2_2) else (skiarealaw52_ClosureHeld.j3 kj16 x0_2 l1 x7_2 t395 x10_16 t405 false a2_0 a2_1 a2_2)) else (skiarealaw52_ClosureHeld.j3 kj16 x0_2 l1 x7_2 t395 x10_16 t405 false a2_0 a2_1 a2_2)) = some r := H; have A34 := Aside0.mk A340; clear A340; have HC35 := Aside0.mk H; clear H; have hnb36 := NB390_394.out; have hnc36 := NB394_390.out; have hcz37_0 : wc.cell? ⟨gb390, 0, none⟩ = some (.int .i64 a2_0) := (blk_cell BK390.out 0).trans rfl; have hcz37_1 : wc.cell? ⟨gb390, 1, none⟩ = some (.int .i64 a2_1) := (blk_cell BK390.out 1).trans rfl; have hcz37_2 : wc.cell? ⟨gb390, 2, none⟩ = some (.int .i64 a2_2) := (blk_cell BK390.out 2).trans rfl; have hfz37_0 := blk_frozen BK390.out 0; have hfz37_1 := blk_frozen BK390.out 1; have hfz37_2 := blk_frozen BK390.out 2; obtain ⟨Ao38, co38, eo38⟩ := Kd.R_slice HO_10.out; subst eo38; go_upto_region 19 with (first | ((with_reducible refine gate_callee (f := 26) rfl ?_); refine goesL_ (some 77) rfl rfl Try.func26 (by kernel_rfl) rfl #[.slice Ao38 x10_16.length co38, .int .i64 a2_0, .int .i64 a2_1, .int .i64 a2_2] rfl (by (try simp only [List.map_toArray, List.map_cons, List.map_nil]); first | done | rfl | (simp only [List.length_drop, List.length_take]; rfl)) ?_; (with_reducible refine (skiarearef52_Place.calls kj16 _ _ x10_16 a2_0 a2_1 a2_2 t405 _ ?side1 ?side2 A34.out).mono ?_); (case side1 => repeat (first | exact (Kd.R_reads' HO_10.out).2.2 | (with_reducible refine Kd.cA_ ?_ _) | (with_reducible refine Kd.cN_ ?_ _) | (with_reducible refine Kd.cD_ ?_))); (case side2 => exact (Kd.R_reads' HO_10.out).2.1); rintro e w' ⟨rfl, ⟨nd, rfl⟩⟩; refine ⟨_, rfl, ?_⟩))
            (try simp only [Act.put, List.setIfInBounds_toArray, List.set_cons_zero, List.set_cons_succ])
            go_cut [13] (fun v13 wc => ∃ (kq : Nat) (x13_34 : Bool), v13 = .bool x13_34 ∧ Aside0 (skiarealaw52_ClosureHeld.j3 kq x0_2 l1 x7_2 t395 x10_16 t405 x13_34 a2_0 a2_1 a2_2 = some r) ∧ Aside0 (kq ≤ kj16) ∧ Aside0 (Kd.V k28 28 wc w.heap.size (fun k_ => (P0_ k_ ∨ w.heap.size ≤ k_) ∧ some k_ ≠ ((.slice Ao38 x10_16.length co38) : Value).ownBlock ∧ k_ ≠ gb390 ∧ k_ ≠ gb394) (.slice Ao22 x0_2.length co22) x0_2) ∧ Aside0 (Kd.R k28 28 wc w.heap.size (fun k_ => (w.heap.size ≤ k_) ∧ k_ ≠ gb394) (.slice Ao38 x10_16.length co38) x10_16) ∧ Aside0 (wc.heap[gb390]? = some (.cells #[.int .i64 a2_0, .int .i64 a2_1, .int .i64 a2_2] 30 (0, 0))) ∧ Aside0 (wc.heap[gb394]? = some (.cells #[.int .i64 ((rd_T50 l1 x7_2).f1.f0), .int .i64 ((rd_T50 l1 x7_2).f1.f1), .int .i64 ((rd_T50 l1 x7_2).f1.f2), .int .i64 ((rd_T50 l1 x7_2).f1.f3)] 28 (0, 0))) ∧ Aside0 (Below w.heap.size w wc))
            case first =>
             have H := HC35.out; clear HC35; by_cases c39 : ((rd_T50 l1 x7_2).f1.f0) = a2_0
             ·
              rw [if_pos c39] at H
              have c39b0 : (((rd_T50 l1 x7_2).f1.f0) == a2_0) = true := beq_iff_eq.mpr c39; have c39b1 : (((rd_T50 l1 x7_2).f1.f0) != a2_0) = false := bne_eq_false_iff_eq.mpr c39; clear c39; (first | rw [c39b0] | (simp only [i64_w, i32_w]; rw [c39b0]) | skip)
              by_cases c40 : ((rd_T50 l1 x7_2).f1.f1) = a2_1
              ·
               rw [if_pos c40] at H
               have c40b0 : (((rd_T50 l1 x7_2).f1.f1) == a2_1) = true := beq_iff_eq.mpr c40; have c40b1 : (((rd_T50 l1 x7_2).f1.f1) != a2_1) = false := bne_eq_false_iff_eq.mpr c40; clear c40; have H' := Aside0.mk H; clear H; have hnb41 := NB394_390.out; have hnc41 := NB390_394.out; have hcz42_0 : wc.cell? ⟨gb394, 0, none⟩ = some (.int .i64 ((rd_T50 l1 x7_2).f1.f0)) := (blk_cell BK394.out 0).trans rfl; have hcz42_1 : wc.cell? ⟨gb394, 1, none⟩ = some (.int .i64 ((rd_T50 l1 x7_2).f1.f1)) := (blk_cell BK394.out 1).trans rfl; have hcz42_2 : wc.cell? ⟨gb394, 2, none⟩ = some (.int .i64 ((rd_T50 l1 x7_2).f1.f2)) := (blk_cell BK394.out 2).trans rfl; have hcz42_3 : wc.cell? ⟨gb394, 3, none⟩ = some (.int .i64 ((rd_T50 l1 x7_2).f1.f3)) := (blk_cell BK394.out 3).trans rfl; have hfz42_0 := blk_frozen BK394.out 0; have hfz42_1 := blk_frozen BK394.out 1; have hfz42_2 := blk_frozen BK394.out 2; have hfz42_3 := blk_frozen BK394.out 3; have hcz43_0 : wc.cell? ⟨gb390, 0, none⟩ = some (.int .i64 a2_0) := (blk_cell BK390.out 0).trans rfl; have hcz43_1 : wc.cell? ⟨gb390, 1, none⟩ = some (.int .i64 a2_1) := (blk_cell BK390.out 1).trans rfl; have hcz43_2 : wc.cell? ⟨gb390, 2, none⟩ = some (.int .i64 a2_2) := (blk_cell BK390.out 2).trans rfl; have hfz43_0 := blk_frozen BK390.out 0; have hfz43_1 := blk_frozen BK390.out 1; have hfz43_2 := blk_frozen BK390.out 2; go_wp2
               go_meet
               case rel => exact ⟨_, ((((rd_T50 l1 x7_2).f1.f2) == a2_2)), (by first | rfl | (simp; done) | (simp [*]; done)), H', ⟨by have := HJ5.out; have := HK2.out; have := HJ16.out; first | omega | exact Nat.le_refl _⟩, ⟨by (with_reducible repeat (first | apply Kd.V_alloc | apply Kd.V_drewN | apply Kd.V_drew)); exact HO_0.out⟩, ⟨by (with_reducible repeat (first | apply Kd.rA_ | apply Kd.rN_ | apply Kd.rD_)); exact HO_10.out⟩, ⟨by (with_reducible repeat (first | refine bN_ ?_ _ | refine bD_ ?_ | refine bA_ ?_ _)); exact BK390.out⟩, ⟨by (with_reducible repeat (first | refine bN_ ?_ _ | refine bD_ ?_ | refine bA_ ?_ _)); exact BK394.out⟩, ⟨by repeat (first | (with_reducible first | exact HB.out | apply lA_ | apply lN_ | apply lD_ | refine lS_ ?_ GE390.out | refine lS_ ?_ GE394.out) | exact HB.out)⟩⟩
              ·
               rw [if_neg c40] at H
               have c40b0 : (((rd_T50 l1 x7_2).f1.f1) == a2_1) = false := beq_eq_false_iff_ne.mpr c40; have c40b1 : (((rd_T50 l1 x7_2).f1.f1) != a2_1) = true := bne_iff_ne.mpr c40; have H' := Aside0.mk H; clear H; have hnb44 := NB394_390.out; have hnc44 := NB390_394.out; have hcz45_0 : wc.cell? ⟨gb394, 0, none⟩ = some (.int .i64 ((rd_T50 l1 x7_2).f1.f0)) := (blk_cell BK394.out 0).trans rfl; have hcz45_1 : wc.cell? ⟨gb394, 1, none⟩ = some (.int .i64 ((rd_T50 l1 x7_2).f1.f1)) := (blk_cell BK394.out 1).trans rfl; have hcz45_2 : wc.cell? ⟨gb394, 2, none⟩ = some (.int .i64 ((rd_T50 l1 x7_2).f1.f2)) := (blk_cell BK394.out 2).trans rfl; have hcz45_3 : wc.cell? ⟨gb394, 3, none⟩ = some (.int .i64 ((rd_T50 l1 x7_2).f1.f3)) := (blk_cell BK394.out 3).trans rfl; have hfz45_0 := blk_frozen BK394.out 0; have hfz45_1 := blk_frozen BK394.out 1; have hfz45_2 := blk_frozen BK394.out 2; have hfz45_3 := blk_frozen BK394.out 3; have hcz46_0 : wc.cell? ⟨gb390, 0, none⟩ = some (.int .i64 a2_0) := (blk_cell BK390.out 0).trans rfl; have hcz46_1 : wc.cell? ⟨gb390, 1, none⟩ = some (.int .i64 a2_1) := (blk_cell BK390.out 1).trans rfl; have hcz46_2 : wc.cell? ⟨gb390, 2, none⟩ = some (.int .i64 a2_2) := (blk_cell BK390.out 2).trans rfl; have hfz46_0 := blk_frozen BK390.out 0; have hfz46_1 := blk_frozen BK390.out 1; have hfz46_2 := blk_frozen BK390.out 2; go_wp2
               go_meet
               case rel => exact ⟨_, (false), (by first | rfl | (simp; done) | (simp [*]; done)), H', ⟨by have := HJ5.out; have := HK2.out; have := HJ16.out; first | omega | exact Nat.le_refl _⟩, ⟨by (with_reducible repeat (first | apply Kd.V_alloc | apply Kd.V_drewN | apply Kd.V_drew)); exact HO_0.out⟩, ⟨by (with_reducible repeat (first | apply Kd.rA_ | apply Kd.rN_ | apply Kd.rD_)); exact HO_10.out⟩, ⟨by (with_reducible repeat (first | refine bN_ ?_ _ | refine bD_ ?_ | refine bA_ ?_ _)); exact BK390.out⟩, ⟨by (with_reducible repeat (first | refine bN_ ?_ _ | refine bD_ ?_ | refine bA_ ?_ _)); exact BK394.out⟩, ⟨by repeat (first | (with_reducible first | exact HB.out | apply lA_ | apply lN_ | apply lD_ | refine lS_ ?_ GE390.out | refine lS_ ?_ GE394.out) | exact HB.out)⟩⟩
             ·
              rw [if_neg c39] at H
              have c39b0 : (((rd_T50 l1 x7_2).f1.f0) == a2_0) = false := beq_eq_false_iff_ne.mpr c39; have c39b1 : (((rd_T50 l1 x7_2).f1.f0) != a2_0) = true := bne_iff_ne.mpr c39; (first | rw [c39b0] | (simp only [i64_w, i32_w]; rw [c39b0]) | skip)
              have H' := Aside0.mk H; clear H; have hnb47 := NB394_390.out; have hnc47 := NB390_394.out; have hcz48_0 : wc.cell? ⟨gb394, 0, none⟩ = some (.int .i64 ((rd_T50 l1 x7_2).f1.f0)) := (blk_cell BK394.out 0).trans rfl; have hcz48_1 : wc.cell? ⟨gb394, 1, none⟩ = some (.int .i64 ((rd_T50 l1 x7_2).f1.f1)) := (blk_cell BK394.out 1).trans rfl; have hcz48_2 : wc.cell? ⟨gb394, 2, none⟩ = some (.int .i64 ((rd_T50 l1 x7_2).f1.f2)) := (blk_cell BK394.out 2).trans rfl; have hcz48_3 : wc.cell? ⟨gb394, 3, none⟩ = some (.int .i64 ((rd_T50 l1 x7_2).f1.f3)) := (blk_cell BK394.out 3).trans rfl; have hfz48_0 := blk_frozen BK394.out 0; have hfz48_1 := blk_frozen BK394.out 1; have hfz48_2 := blk_frozen BK394.out 2; have hfz48_3 := blk_frozen BK394.out 3; have hcz49_0 : wc.cell? ⟨gb390, 0, none⟩ = some (.int .i64 a2_0) := (blk_cell BK390.out 0).trans rfl; have hcz49_1 : wc.cell? ⟨gb390, 1, none⟩ = some (.int .i64 a2_1) := (blk_cell BK390.out 1).trans rfl; have hcz49_2 : wc.cell? ⟨gb390, 2, none⟩ = some (.int .i64 a2_2) := (blk_cell BK390.out 2).trans rfl; have hfz49_0 := blk_frozen BK390.out 0; have hfz49_1 := blk_frozen BK390.out 1; have hfz49_2 := blk_frozen BK390.out 2; go_wp2
              go_meet
              case rel => exact ⟨_, (false), (by first | rfl | (simp; done) | (simp [*]; done)), H', ⟨by have := HJ5.out; have := HK2.out; have := HJ16.out; first | omega | exact Nat.le_refl _⟩, ⟨by (with_reducible repeat (first | apply Kd.V_alloc | apply Kd.V_drewN | apply Kd.V_drew)); exact HO_0.out⟩, ⟨by (with_reducible repeat (first | apply Kd.rA_ | apply Kd.rN_ | apply Kd.rD_)); exact HO_10.out⟩, ⟨by (with_reducible repeat (first | refine bN_ ?_ _ | refine bD_ ?_ | refine bA_ ?_ _)); exact BK390.out⟩, ⟨by (with_reducible repeat (first | refine bN_ ?_ _ | refine bD_ ?_ | refine bA_ ?_ _)); exact BK394.out⟩, ⟨by repeat (first | (with_reducible first | exact HB.out | apply lA_ | apply lN_ | apply lD_ | refine lS_ ?_ GE390.out | refine lS_ ?_ GE394.out) | exact HB.out)⟩⟩
            case rest =>
             clear HC35; try clear c1
             try clear c2
             try clear p2
             try clear q2
             try clear c3
             try clear p3
             try clear q3
             try clear hx3
             try clear c4
             try clear c5
             try clear c6
             try clear c9
             try clear c10
             try clear c12
             try clear c13
             try clear c14
             try clear c14b0
             try clear c15
             try clear c15b0
             try clear c19
             try clear q23
             try clear c24
             try clear c26
             try clear c30
             try clear c33
             try clear c33b0
             try clear c33b1
             try clear c36
             try clear c39
             try clear c39b0
             try clear c39b1
             try clear p39
             try clear q39
             try clear hx39
             try clear c40
             try clear c40b0
             try clear c40b1
             try clear c41
             try clear c44
             try clear c47
             try clear hcz20_0
             try clear hcz20_1
             try clear hcz20_2
             try clear hcz20_3
             try clear hcz21_0
             try clear hcz21_1
             try clear hcz21_2
             try clear hcz27_0
             try clear hcz27_1
             try clear hcz27_2
             try clear hcz27_3
             try clear hcz31_0
             try clear hcz31_1
             try clear hcz31_2
             try clear hcz31_3
             try clear hcz37_0
             try clear hcz37_1
             try clear hcz37_2
             try clear hcz42_0
             try clear hcz42_1
             try clear hcz42_2
             try clear hcz42_3
             try clear hcz43_0
             try clear hcz43_1
             try clear hcz43_2
             try clear hcz45_0
             try clear hcz45_1
             try clear hcz45_2
             try clear hcz45_3
             try clear hcz46_0
             try clear hcz46_1
             try clear hcz46_2
             try clear hcz48_0
             try clear hcz48_1
             try clear hcz48_2
             try clear hcz48_3
             try clear hcz49_0
             try clear hcz49_1
             try clear hcz49_2
             try clear hfz20_0
             try clear hfz20_1
             try clear hfz20_2
             try clear hfz20_3
             try clear hfz21_0
             try clear hfz21_1
             try clear hfz21_2
             try clear hfz27_0
             try clear hfz27_1
             try clear hfz27_2
             try clear hfz27_3
             try clear hfz31_0
             try clear hfz31_1
             try clear hfz31_2
             try clear hfz31_3
             try clear hfz37_0
             try clear hfz37_1
             try clear hfz37_2
             try clear hfz42_0
             try clear hfz42_1
             try clear hfz42_2
             try clear hfz42_3
             try clear hfz43_0
             try clear hfz43_1
             try clear hfz43_2
             try clear hfz45_0
             try clear hfz45_1
             try clear hfz45_2
             try clear hfz45_3
             try clear hfz46_0
             try clear hfz46_1
             try clear hfz46_2
             try clear hfz48_0
             try clear hfz48_1
             try clear hfz48_2
             try clear hfz48_3
             try clear hfz49_0
             try clear hfz49_1
             try clear hfz49_2
             try clear hx393_0
             try clear hx393_1
             try clear hx393_2
             try clear hx393_3
             try clear hx393_4
             try clear hx396_0
             try clear hx396_1
             try clear hx396_2
             try clear hx396_3
             try clear hx396_4
             try clear p2
             try clear p3
             try clear p393
             try clear p396
             try clear q2
             try clear q23
             try clear q3
             try clear q393
             try clear q396
             obtain ⟨kq, x13_34, rfl, HA, HJ34, HO_0, HO_10, BK390, BK394, HB⟩ := hcut
             cases kq with
             | zero => exact absurd HA.out (by simp [skiarealaw52_ClosureHeld.j3])
             | succ kj34 =>
              have H := HA.out; clear HA; simp only [skiarealaw52_ClosureHeld.j3] at H
              by_cases c50 : x13_34 = true
              ·
               subst c50; have H1 : (if t395 ≥ 0 then (if t405 ≥ 0 then (if 0 ≤ t395 then (if t395 < (x0_2.length : Int) then (if 0 ≤ t405 then (if t405 < (x10_16.length : Int) then (if (!(((rd_T28 x0_2 t395).f0) == ((rd_T28 x10_16 t405).f0)) || (!(((rd_T28 x0_2 t395).f1) == ((rd_T28 x10_16 t405).f1)) || (!(((rd_T28 x0_2 t395).f2) == ((rd_T28 x10_16 t405).f2)) || (!(((rd_T28 x0_2 t395).f3) == ((rd_T28 x10_16 t405).f3)))))) = true then (none) else (if 0 ≤ x7_2 then (if x7_2 < (l1.length : Int) then (if (((rd_T50 l1 x7_2).f0) != (decide (t405 < 0))) = true then (none) else ((closure_Right.f kj34 x10_16).bind fun t409 => (if t409 = 0 then ((closure_Of.f kj34 x10_16 a2_0 a2_1).bind fun t410 => ((skiarealaw52_has.f kj34 t410 a2_2).bind fun t413 => (if (t413 != (decide (t405 ≥ 0))) = true then (none) else (skiarealaw52_ClosureHeld.l0 kj34 x10_16 l1 (wrap64 (x7_2 + 1)) a2_0 a2_1 a2_2)))) else (none)))) else (none)) else (none))) else (none)) else (none)) else (none)) else (none)) else (if 0 ≤ x7_2 then (if x7_2 < (l1.length : Int) then (if (((rd_T50 l1 x7_2).f0) != (decide (t405 < 0))) = true then (none) else ((closure_Right.f kj34 x10_16).bind fun t415 => (if t415 = 0 then ((closure_Of.f kj34 x10_16 a2_0 a2_1).bind fun t416 => ((skiarealaw52_has.f kj34 t416 a2_2).bind fun t419 => (if (t419 != (decide (t405 ≥ 0))) = true then (none) else (skiarealaw52_ClosureHeld.l0 kj34 x10_16 l1 (wrap64 (x7_2 + 1)) a2_0 a2_1 a2_2)))) else (none)))) else (none)) else (none))) else (if 0 ≤ x7_2 then (if x7_2 < (l1.length : Int) then (if (((rd_T50 l1 x7_2).f0) != (decide (t405 < 0))) = true then (none) else ((closure_Right.f kj34 x10_16).bind fun t421 => (if t421 = 0 then ((closure_Of.f kj34 x10_16 a2_0 a2_1).bind fun t422 => ((skiarealaw52_has.f kj34 t422 a2_2).bind fun t425 => (if (t425 != (decide (t405 ≥ 0))) = true then (none) else (skiarealaw52_ClosureHeld.l0 kj34 x10_16 l1 (wrap64 (x7_2 + 1)) a2_0 a2_1 a2_2)))) else (none)))) else (none)) else (none))) = some r := by rw [if_pos rfl] at H; exact H
               clear H; have H := H1; clear H1; by_cases c51 : t395 ≥ 0
               ·
                rw [if_pos c51] at H
                have c51b0 : decide (0 ≤ t395) = true := decide_eq_true c51; clear c51; by_cases c52 : t405 ≥ 0
                ·
                 rw [if_pos c52] at H
                 have c52b0 : decide (0 ≤ t405) = true := decide_eq_true c52; clear c52; by_cases c53 : 0 ≤ t395
                 ·
                  rw [if_pos c53] at H
                  have c53b0 : decide (0 ≤ t395) = true := decide_eq_true c53; clear c53; by_cases c54 : t395 < (x0_2.length : Int)
                  ·
                   rw [if_pos c54] at H
                   have c54b0 : decide (t395 < (x0_2.length : Int)) = true := decide_eq_true c54; clear c54; by_cases c55 : 0 ≤ t405
                   ·
                    rw [if_pos c55] at H
                    have c55b0 : decide (0 ≤ t405) = true := decide_eq_true c55; clear c55; by_cases c56 : t405 < (x10_16.length : Int)
                    ·
                     rw [if_pos c56] at H
                     have c56b0 : decide (t405 < (x10_16.length : Int)) = true := decide_eq_true c56; clear c56; by_cases c57 : (!(((rd_T28 x0_2 t395).f0) == ((rd_T28 x10_16 t405).f0)) || (!(((rd_T28 x0_2 t395).f1) == ((rd_T28 x10_16 t405).f1)) || (!(((rd_T28 x0_2 t395).f2) == ((rd_T28 x10_16 t405).f2)) || (!(((rd_T28 x0_2 t395).f3) == ((rd_T28 x10_16 t405).f3)))))) = true
                     ·
                      rw [if_pos c57] at H
                      have c57b0 : (!(((rd_T28 x0_2 t395).f0) == ((rd_T28 x10_16 t405).f0)) || (!(((rd_T28 x0_2 t395).f1) == ((rd_T28 x10_16 t405).f1)) || (!(((rd_T28 x0_2 t395).f2) == ((rd_T28 x10_16 t405).f2)) || (!(((rd_T28 x0_2 t395).f3) == ((rd_T28 x10_16 t405).f3)))))) = true := c57; clear c57
                      exact absurd H (by simp)
                     ·
                      rw [if_neg c57] at H
                      have c57b0 : (!(((rd_T28 x0_2 t395).f0) == ((rd_T28 x10_16 t405).f0)) || (!(((rd_T28 x0_2 t395).f1) == ((rd_T28 x10_16 t405).f1)) || (!(((rd_T28 x0_2 t395).f2) == ((rd_T28 x10_16 t405).f2)) || (!(((rd_T28 x0_2 t395).f3) == ((rd_T28 x10_16 t405).f3)))))) = false := by simpa using c57
                      clear c57; by_cases c58 : 0 ≤ x7_2
                      ·
                       rw [if_pos c58] at H
                       have c58b0 : decide (0 ≤ x7_2) = true := decide_eq_true c58; clear c58; by_cases c59 : x7_2 < (l1.length : Int)
                       ·
                        rw [if_pos c59] at H
                        have c59b0 : decide (x7_2 < (l1.length : Int)) = true := decide_eq_true c59; clear c59; by_cases c60 : (((rd_T50 l1 x7_2).f0) != (decide (t405 < 0))) = true
                        ·
                         rw [if_pos c60] at H
                         have c60b0 : (((rd_T50 l1 x7_2).f0) != (decide (t405 < 0))) = true := c60; (try (have c60b1 : decide (((rd_T50 l1 x7_2).f0) = (decide (t405 < 0))) = false := by simpa using c60))
                         (try (have c60b2 : (((rd_T50 l1 x7_2).f0) == (decide (t405 < 0))) = false := by simpa using c60))
                         (try (have c60b3 : ¬ (((rd_T50 l1 x7_2).f0) = (decide (t405 < 0))) := by simpa using c60))
                         clear c60
                         exact absurd H (by simp)
                        ·
                         rw [if_neg c60] at H
                         have c60b0 : (((rd_T50 l1 x7_2).f0) != (decide (t405 < 0))) = false := by simpa using c60
                         (try (have c60b1 : decide (((rd_T50 l1 x7_2).f0) = (decide (t405 < 0))) = true := by simpa using c60))
                         (try (have c60b2 : (((rd_T50 l1 x7_2).f0) == (decide (t405 < 0))) = true := by simpa using c60))
                         clear c60; replace H := Option.bind_eq_some_iff.mp H; obtain ⟨t409, A610, H⟩ := H; replace H : (if t409 = 0 then ((closure_Of.f kj34 x10_16 a2_0 a2_1).bind fun t410 => ((skiarealaw52_has.f kj34 t410 a2_2).bind fun t413 => (if (t413 != (decide (t405 ≥ 0))) = true then (none) else (skiarealaw52_ClosureHeld.l0 kj34 x10_16 l1 (wrap64 (x7_2 + 1)) a2_0 a2_1 a2_2)))) else (none)) = some r := H; have A61 := Aside0.mk A610; clear A610; by_cases c62 : t409 = 0
                         ·
                          rw [if_pos c62] at H
                          have c62b0 : (t409 == 0) = true := beq_iff_eq.mpr c62; have c62b1 : (t409 != 0) = false := bne_eq_false_iff_eq.mpr c62; clear c62; replace H := Option.bind_eq_some_iff.mp H; obtain ⟨t410, A630, H⟩ := H; replace H : ((skiarealaw52_has.f kj34 t410 a2_2).bind fun t413 => (if (t413 != (decide (t405 ≥ 0))) = true then (none) else (skiarealaw52_ClosureHeld.l0 kj34 x10_16 l1 (wrap64 (x7_2 + 1)) a2_0 a2_1 a2_2))) = some r := H; have A63 := Aside0.mk A630; clear A630; replace H := Option.bind_eq_some_iff.mp H; obtain ⟨t413, A640, H⟩ := H; replace H : (if (t413 != (decide (t405 ≥ 0))) = true then (none) else (skiarealaw52_ClosureHeld.l0 kj34 x10_16 l1 (wrap64 (x7_2 + 1)) a2_0 a2_1 a2_2)) = some r := H; have A64 := Aside0.mk A640; clear A640; by_cases c65 : (t413 != (decide (t405 ≥ 0))) = true
                          ·
                           rw [if_pos c65] at H
                           exact absurd H (by simp)
                          ·
                           rw [if_neg c65] at H
                           have c65b0 : (t413 != (decide (t405 ≥ 0))) = false := by simpa using c65
                           (first | (have c65z : t413 = true := (bne_eq_false_iff_eq.1 c65b0).trans (decide_eq_true (of_decide_eq_true (show decide (0 ≤ t405) = true by assumption)))) | (have c65z : t413 = false := (bne_eq_false_iff_eq.1 c65b0).trans (decide_eq_false (of_decide_eq_false (show decide (0 ≤ t405) = false by assumption)))) | skip)
                           (try (have c65b1 : decide (t413 = (decide (t405 ≥ 0))) = true := by simpa using c65))
                           (try (have c65b2 : (t413 == (decide (t405 ≥ 0))) = true := by simpa using c65))
                           clear c65; have H' := Aside0.mk H; clear H; try go_wp2
                           have n0_ := Aside0.mk (Kd.V_drew HO_0.out); have n1_ := Aside0.mk (Kd.rD_ HO_10.out); have n2_ := Aside0.mk (bD_ BK390.out); have n3_ := Aside0.mk (bD_ BK394.out); have n4_ := Aside0.mk (lD_ HB.out); clear HO_0; clear HO_10; clear BK390; clear BK394; clear HB; have HO_0 := n0_; have HO_10 := n1_; have BK390 := n2_; have BK394 := n3_; have HB := n4_; clear n0_ n1_ n2_ n3_ n4_; have p406 : 0 ≤ (t395 : Int) := of_decide_eq_true (by first | (with_reducible assumption) | assumption); have q406 : t395 < (x0_2.length : Int) := of_decide_eq_true (by first | (with_reducible assumption) | assumption); obtain ⟨ad406, e406, hx406_0, hx406_1, hx406_2, hx406_3⟩ := at_T28 (Kd.V_reads' HO_0.out).2.2 t395 p406 q406
                           cases e406
                           replace p406 := eq_true p406; replace q406 := eq_true q406; have p407 : 0 ≤ (t405 : Int) := of_decide_eq_true (by first | (with_reducible assumption) | assumption); have q407 : t405 < (x10_16.length : Int) := of_decide_eq_true (by first | (with_reducible assumption) | assumption); obtain ⟨ad407, e407, hx407_0, hx407_1, hx407_2, hx407_3⟩ := at_T28 (Kd.R_reads' HO_10.out).2.2 t405 p407 q407
                           cases e407
                           replace p407 := eq_true p407; replace q407 := eq_true q407; have p408 : 0 ≤ (x7_2 : Int) := of_decide_eq_true (by first | (with_reducible assumption) | assumption); have q408 : x7_2 < (l1.length : Int) := of_decide_eq_true (by first | (with_reducible assumption) | assumption); obtain ⟨ad408, e408, hx408_0, hx408_1, hx408_2, hx408_3, hx408_4⟩ := at_T50 HR1.out x7_2 p408 q408; have hw408_4 := hx408_4; have hw408_3 := hx408_3; have hw408_2 := hx408_2; have hw408_1 := hx408_1; have hw408_0 := hx408_0; obtain rfl : ad393 = ad408 := (by injection e408); replace hx408_0 := (HB.out.cell (World.block_lt_of_cell? w _ hx408_0)).trans hx408_0; replace hx408_1 := (HB.out.cell (World.block_lt_of_cell? w _ hx408_1)).trans hx408_1; replace hx408_2 := (HB.out.cell (World.block_lt_of_cell? w _ hx408_2)).trans hx408_2; replace hx408_3 := (HB.out.cell (World.block_lt_of_cell? w _ hx408_3)).trans hx408_3; replace hx408_4 := (HB.out.cell (World.block_lt_of_cell? w _ hx408_4)).trans hx408_4; replace p408 := eq_true p408; replace q408 := eq_true q408
                           as_aux_lemma =>
                            refine start_ (n := 60) (S := fun w' => w'.cell? ⟨gb390, 0, none⟩ = some (.int .i64 a2_0) ∧ w'.cell? ⟨gb390, 1, none⟩ = some (.int .i64 a2_1) ∧ w'.cell? ⟨gb390, 2, none⟩ = some (.int .i64 a2_2) ∧ w'.cell? (ad406.add ((t395).toNat * 4)) = some (.int .i64 ((rd_T28 x0_2 t395).f0)) ∧ w'.cell? ⟨(ad406.add ((t395).toNat * 4)).block, (ad406.add ((t395).toNat * 4)).off + 1, none⟩ = some (.int .i64 ((rd_T28 x0_2 t395).f1)) ∧ w'.cell? ⟨(ad406.add ((t395).toNat * 4)).block, (ad406.add ((t395).toNat * 4)).off + 2, none⟩ = some (.int .i64 ((rd_T28 x0_2 t395).f2)) ∧ w'.cell? ⟨(ad406.add ((t395).toNat * 4)).block, (ad406.add ((t395).toNat * 4)).off + 3, none⟩ = some (.int .i64 ((rd_T28 x0_2 t395).f3)) ∧ w'.cell? (ad407.add ((t405).toNat * 4)) = some (.int .i64 ((rd_T28 x10_16 t405).f0)) ∧ w'.cell? ⟨(ad407.add ((t405).toNat * 4)).block, (ad407.add ((t405).toNat * 4)).off + 1, none⟩ = some (.int .i64 ((rd_T28 x10_16 t405).f1)) ∧ w'.cell? ⟨(ad407.add ((t405).toNat * 4)).block, (ad407.add ((t405).toNat * 4)).off + 2, none⟩ = some (.int .i64 ((rd_T28 x10_16 t405).f2)) ∧ w'.cell? ⟨(ad407.add ((t405).toNat * 4)).block, (ad407.add ((t405).toNat * 4)).off + 3, none⟩ = some (.int .i64 ((rd_T28 x10_16 t405).f3)) ∧ w'.cell? (ad393.add ((x7_2).toNat * 5)) = some (.bool ((rd_T50 l1 x7_2).f0)) ∧ w'.cell? ⟨(ad393.add ((x7_2).toNat * 5)).block, (ad393.add ((x7_2).toNat * 5)).off + 1, none⟩ = some (.int .i64 ((rd_T50 l1 x7_2).f1.f0)) ∧ w'.cell? ⟨(ad393.add ((x7_2).toNat * 5)).block, (ad393.add ((x7_2).toNat * 5)).off + 2, none⟩ = some (.int .i64 ((rd_T50 l1 x7_2).f1.f1)) ∧ w'.cell? ⟨(ad393.add ((x7_2).toNat * 5)).block, (ad393.add ((x7_2).toNat * 5)).off + 3, none⟩ = some (.int .i64 ((rd_T50 l1 x7_2).f1.f2)) ∧ w'.cell? ⟨(ad393.add ((x7_2).toNat * 5)).block, (ad393.add ((x7_2).toNat * 5)).off + 4, none⟩ = some (.int .i64 ((rd_T50 l1 x7_2).f1.f3))) (ds := []) #[false, false, false, false, false, false, false, false, false, false, false, false, false, false, false, false, false, false, false, false, false, false, false, false, false, false, false, false, false, false, false, false, false, false, false, false, false, false, false, false, false, false, false, false, false, false, false, false, false, false, false, false, false, false, false, false, false, false, false, false] (by kernel_rfl) rfl rfl ⟨(blk_cell BK390.out 0).trans rfl, (blk_cell BK390.out 1).trans rfl, (blk_cell BK390.out 2).trans rfl, hx406_0, hx406_1, hx406_2, hx406_3, hx407_0, hx407_1, hx407_2, hx407_3, ((HB.out.cell (World.block_lt_of_cell? w _ hw408_0)).trans hw408_0), ((HB.out.cell (World.block_lt_of_cell? w _ hw408_1)).trans hw408_1), ((HB.out.cell (World.block_lt_of_cell? w _ hw408_2)).trans hw408_2), ((HB.out.cell (World.block_lt_of_cell? w _ hw408_3)).trans hw408_3), ((HB.out.cell (World.block_lt_of_cell? w _ hw408_4)).trans hw408_4)⟩ (fun hHeld => ?_); refine with_tabW skiarealaw52_ClosureHeld.tab20 skiarealaw52_ClosureHeld.bits20 (fun HT_ HW_ => ?_)
                            generalize wc.drew = w66 at HO_0 HO_10 BK390 BK394 HB hx406_0 hx406_1 hx406_2 hx406_3 hx407_0 hx407_1 hx407_2 hx407_3 hx408_0 hx408_1 hx408_2 hx408_3 hx408_4 hHeld ⊢
                            refine pu_ ?_ 0 (some 97) skiarealaw52_ClosureHeld.b0 rfl rfl HT_ (by kernel_rfl) (fun _ _ _ h => h) (by rfl) ?_ ?_ ?_ ?_; rotate_left; (intro w'; go_simp; with_reducible rfl); rotate_left; (simp only [Act.put, sA_, sB_, sC_, i64_w, i32_w]; rfl)
                            refine pu_ ?_ 1 (some 98) skiarealaw52_ClosureHeld.b1 rfl rfl HT_ (by kernel_rfl) (fun _ _ _ h => h) (by rfl) ?_ ?_ ?_ ?_; rotate_left; (intro w'; go_simp; with_reducible rfl); rotate_left; (simp only [Act.put, sA_, sB_, sC_, i64_w, i32_w]; rfl)
                            refine pu_ ?_ 2 (some 99) skiarealaw52_ClosureHeld.b2 rfl rfl HT_ (by kernel_rfl) (fun _ _ _ h => h) (by rfl) ?_ ?_ ?_ ?_; rotate_left; (intro w'; go_simp; with_reducible rfl); rotate_left; (simp only [Act.put, sA_, sB_, sC_, i64_w, i32_w]; rfl)
                            refine pn_ ?_ 3 (some 100) skiarealaw52_ClosureHeld.b3 rfl rfl HT_ (by kernel_rfl) (fun _ _ _ h => h) (by rfl) ?_ ?_; rotate_left; (simp only [Act.put, sA_, sB_, sC_, i64_w, i32_w]; rfl)
                            refine pn_ ?_ 4 (some 101) skiarealaw52_ClosureHeld.b4 rfl rfl HT_ (by kernel_rfl) (fun _ _ _ h => h) (by rfl) ?_ ?_; rotate_left; (simp only [Act.put, sA_, sB_, sC_, i64_w, i32_w]; rfl)
                            refine pn_ ?_ 5 (some 102) skiarealaw52_ClosureHeld.b5 rfl rfl HT_ (by kernel_rfl) (fun _ _ _ h => h) (by rfl) ?_ ?_; rotate_left; (simp only [Act.put, sA_, sB_, sC_, i64_w, i32_w]; rfl)
                            refine pn_ ?_ 6 (some 103) skiarealaw52_ClosureHeld.b6 rfl rfl HT_ (by kernel_rfl) (fun _ _ _ h => h) (by rfl) ?_ ?_; rotate_left; (simp only [Act.put, sA_, sB_, sC_, i64_w, i32_w]; rfl)
                            refine pn_ ?_ 7 (some 104) skiarealaw52_ClosureHeld.b7 rfl rfl HT_ (by kernel_rfl) (fun _ _ _ h => h) (by rfl) ?_ ?_; rotate_left; (simp only [Act.put, sA_, sB_, sC_, i64_w, i32_w]; rfl)
                            refine pu_ ?_ 8 (some 105) skiarealaw52_ClosureHeld.b8 rfl rfl HT_ (by kernel_rfl) (fun _ _ _ h => h) (by rfl) ?_ ?_ ?_ ?_; rotate_left; (intro w'; go_simp; with_reducible rfl); rotate_left; (simp only [Act.put, sA_, sB_, sC_, i64_w, i32_w]; rfl)
                            refine pu_ ?_ 9 (some 106) skiarealaw52_ClosureHeld.b9 rfl rfl HT_ (by kernel_rfl) (fun _ _ _ h => h) (by rfl) ?_ ?_ ?_ ?_; rotate_left; (intro w'; go_simp; with_reducible rfl); rotate_left; (simp only [Act.put, sA_, sB_, sC_, i64_w, i32_w]; rfl)
                            refine pu_ ?_ 10 (some 107) skiarealaw52_ClosureHeld.b10 rfl rfl HT_ (by kernel_rfl) (fun _ _ _ h => h) (by rfl) ?_ ?_ ?_ ?_; rotate_left; (intro w'; go_simp; with_reducible rfl); rotate_left; (simp only [Act.put, sA_, sB_, sC_, i64_w, i32_w]; rfl)
                            refine pu_ ?_ 11 (some 108) skiarealaw52_ClosureHeld.b11 rfl rfl HT_ (by kernel_rfl) (fun _ _ _ h => h) (by rfl) ?_ ?_ ?_ ?_; rotate_left; (intro w'; go_simp; with_reducible rfl); rotate_left; (simp only [Act.put, sA_, sB_, sC_, i64_w, i32_w]; rfl)
                            refine pu_ ?_ 12 (some 109) skiarealaw52_ClosureHeld.b12 rfl rfl HT_ (by kernel_rfl) (fun _ _ _ h => h) (by rfl) ?_ ?_ ?_ ?_; rotate_left; (intro w'; go_simp; with_reducible rfl); rotate_left; (simp only [Act.put, sA_, sB_, sC_, i64_w, i32_w]; rfl)
                            refine pu_ ?_ 13 (some 110) skiarealaw52_ClosureHeld.b13 rfl rfl HT_ (by kernel_rfl) (fun _ _ _ h => h) (by rfl) ?_ ?_ ?_ ?_; rotate_left; (intro w'; go_simp; with_reducible rfl); rotate_left; (simp only [Act.put, sA_, sB_, sC_, i64_w, i32_w]; rfl)
                            refine pu_ ?_ 14 (some 111) skiarealaw52_ClosureHeld.b14 rfl rfl HT_ (by kernel_rfl) (fun _ _ _ h => h) (by rfl) ?_ ?_ ?_ ?_; rotate_left; (intro w'; go_simp; with_reducible rfl); rotate_left; (simp only [Act.put, sA_, sB_, sC_, i64_w, i32_w]; rfl)
                            refine pu_ ?_ 15 (some 112) skiarealaw52_ClosureHeld.b15 rfl rfl HT_ (by kernel_rfl) (fun _ _ _ h => h) (by rfl) ?_ ?_ ?_ ?_; rotate_left; (intro w'; go_simp; with_reducible rfl); rotate_left; (simp only [Act.put, sA_, sB_, sC_, i64_w, i32_w]; rfl)
                            refine pu_ ?_ 16 (some 113) skiarealaw52_ClosureHeld.b16 rfl rfl HT_ (by kernel_rfl) (fun _ _ _ h => h) (by rfl) ?_ ?_ ?_ ?_; rotate_left; (intro w'; go_simp; with_reducible rfl); rotate_left; (simp only [Act.put, sA_, sB_, sC_, i64_w, i32_w]; rfl)
                            refine pu_ ?_ 17 (some 114) skiarealaw52_ClosureHeld.b17 rfl rfl HT_ (by kernel_rfl) (fun _ _ _ h => h) (by rfl) ?_ ?_ ?_ ?_; rotate_left; (intro w'; go_simp; with_reducible rfl); rotate_left; (simp only [Act.put, sA_, sB_, sC_, i64_w, i32_w]; rfl)
                            refine pu_ ?_ 18 (some 115) skiarealaw52_ClosureHeld.b18 rfl rfl HT_ (by kernel_rfl) (fun _ _ _ h => h) (by rfl) ?_ ?_ ?_ ?_; rotate_left; (intro w'; go_simp; with_reducible rfl); rotate_left; (simp only [Act.put, sA_, sB_, sC_, i64_w, i32_w]; rfl)
                            refine pu_ ?_ 19 (some 116) skiarealaw52_ClosureHeld.b19 rfl rfl HT_ (by kernel_rfl) (fun _ _ _ h => h) (by rfl) ?_ ?_ ?_ ?_; rotate_left; (intro w'; go_simp; with_reducible rfl); rotate_left; (simp only [Act.put, sA_, sB_, sC_, i64_w, i32_w]; rfl)
                            refine pu_ ?_ 21 (some 118) skiarealaw52_ClosureHeld.b20 rfl rfl HT_ (by kernel_rfl) (fun _ _ _ h => h) (by rfl) ?_ ?_ ?_ ?_; rotate_left; (intro w'; go_simp; with_reducible rfl); rotate_left; (simp only [Act.put, sA_, sB_, sC_, i64_w, i32_w]; rfl)
                            refine pu_ ?_ 22 (some 119) skiarealaw52_ClosureHeld.b21 rfl rfl HT_ (by kernel_rfl) (fun _ _ _ h => h) (by rfl) ?_ ?_ ?_ ?_; rotate_left; (intro w'; go_simp; with_reducible rfl); rotate_left; (simp only [Act.put, sA_, sB_, sC_, i64_w, i32_w]; rfl)
                            refine pu_ ?_ 23 (some 120) skiarealaw52_ClosureHeld.b22 rfl rfl HT_ (by kernel_rfl) (fun _ _ _ h => h) (by rfl) ?_ ?_ ?_ ?_; rotate_left; (intro w'; go_simp; with_reducible rfl); rotate_left; (simp only [Act.put, sA_, sB_, sC_, i64_w, i32_w]; rfl)
                            refine take_ (i := 20) (N := some 117) (v := ?_) (a' := ?_) skiarealaw52_ClosureHeld.b23 rfl rfl (take_ofW HT_.out HW_.out (by kernel_rfl)) (fun _ _ _ h => h) (Or.inl ⟨by rfl, ?_⟩) hHeld ?_ ?_
                            rotate_left
                            ·
                             rintro w' ⟨s0, s1, s2, s3, s4, s5, s6, s7, s8, s9, s10, s11, s12, s13, s14, s15⟩; go_simp
                             with_reducible rfl
                            rotate_left
                            ·
                             simp only [Act.put, List.setIfInBounds_toArray, List.set_cons_zero, List.set_cons_succ, i64_w, i32_w]; rfl
                            refine take_ (i := 24) (N := some 121) (v := ?_) (a' := ?_) skiarealaw52_ClosureHeld.b24 rfl rfl (take_ofW HT_.out HW_.out (by kernel_rfl)) (fun _ _ _ h => h) (Or.inl ⟨by rfl, ?_⟩) hHeld ?_ ?_
                            rotate_left
                            ·
                             rintro w' ⟨s0, s1, s2, s3, s4, s5, s6, s7, s8, s9, s10, s11, s12, s13, s14, s15⟩; go_simp
                             with_reducible rfl
                            rotate_left
                            ·
                             simp only [Act.put, List.setIfInBounds_toArray, List.set_cons_zero, List.set_cons_succ, i64_w, i32_w]; rfl
                            refine pu_ ?_ 25 (some 122) skiarealaw52_ClosureHeld.b25 rfl rfl HT_ (by kernel_rfl) (fun _ _ _ h => h) (by rfl) ?_ ?_ ?_ ?_; rotate_left; (intro w'; go_simp; with_reducible rfl); rotate_left; (simp only [Act.put, sA_, sB_, sC_, i64_w, i32_w]; rfl)
                            refine pu_ ?_ 26 (some 123) skiarealaw52_ClosureHeld.b26 rfl rfl HT_ (by kernel_rfl) (fun _ _ _ h => h) (by rfl) ?_ ?_ ?_ ?_; rotate_left; (intro w'; go_simp; with_reducible rfl); rotate_left; (simp only [Act.put, sA_, sB_, sC_, i64_w, i32_w]; rfl)
                            refine pu_ ?_ 27 (some 124) skiarealaw52_ClosureHeld.b27 rfl rfl HT_ (by kernel_rfl) (fun _ _ _ h => h) (by rfl) ?_ ?_ ?_ ?_; rotate_left; (intro w'; go_simp; with_reducible rfl); rotate_left; (simp only [Act.put, sA_, sB_, sC_, i64_w, i32_w]; rfl)
                            refine pu_ ?_ 28 (some 125) skiarealaw52_ClosureHeld.b28 rfl rfl HT_ (by kernel_rfl) (fun _ _ _ h => h) (by rfl) ?_ ?_ ?_ ?_; rotate_left; (intro w'; go_simp; with_reducible rfl); rotate_left; (simp only [Act.put, sA_, sB_, sC_, i64_w, i32_w]; rfl)
                            refine pu_ ?_ 29 (some 126) skiarealaw52_ClosureHeld.b29 rfl rfl HT_ (by kernel_rfl) (fun _ _ _ h => h) (by rfl) ?_ ?_ ?_ ?_; rotate_left; (intro w'; go_simp; with_reducible rfl); rotate_left; (simp only [Act.put, sA_, sB_, sC_, i64_w, i32_w]; rfl)
                            refine pu_ ?_ 30 (some 127) skiarealaw52_ClosureHeld.b30 rfl rfl HT_ (by kernel_rfl) (fun _ _ _ h => h) (by rfl) ?_ ?_ ?_ ?_; rotate_left; (intro w'; go_simp; with_reducible rfl); rotate_left; (simp only [Act.put, sA_, sB_, sC_, i64_w, i32_w]; rfl)
                            refine pu_ ?_ 31 (some 128) skiarealaw52_ClosureHeld.b31 rfl rfl HT_ (by kernel_rfl) (fun _ _ _ h => h) (by rfl) ?_ ?_ ?_ ?_; rotate_left; (intro w'; go_simp; with_reducible rfl); rotate_left; (simp only [Act.put, sA_, sB_, sC_, i64_w, i32_w]; rfl)
                            refine pu_ ?_ 32 (some 129) skiarealaw52_ClosureHeld.b32 rfl rfl HT_ (by kernel_rfl) (fun _ _ _ h => h) (by rfl) ?_ ?_ ?_ ?_; rotate_left; (intro w'; go_simp; with_reducible rfl); rotate_left; (simp only [Act.put, sA_, sB_, sC_, i64_w, i32_w]; rfl)
                            refine pu_ ?_ 33 (some 130) skiarealaw52_ClosureHeld.b33 rfl rfl HT_ (by kernel_rfl) (fun _ _ _ h => h) (by rfl) ?_ ?_ ?_ ?_; rotate_left; (intro w'; go_simp; with_reducible rfl); rotate_left; (simp only [Act.put, sA_, sB_, sC_, i64_w, i32_w]; rfl)
                            refine pu_ ?_ 34 (some 131) skiarealaw52_ClosureHeld.b34 rfl rfl HT_ (by kernel_rfl) (fun _ _ _ h => h) (by rfl) ?_ ?_ ?_ ?_; rotate_left; (intro w'; go_simp; with_reducible rfl); rotate_left; (simp only [Act.put, sA_, sB_, sC_, i64_w, i32_w]; rfl)
                            refine pu_ ?_ 36 (some 133) skiarealaw52_ClosureHeld.b35 rfl rfl HT_ (by kernel_rfl) (fun _ _ _ h => h) (by rfl) ?_ ?_ ?_ ?_; rotate_left; (intro w'; go_simp; with_reducible rfl); rotate_left; (simp only [Act.put, sA_, sB_, sC_, i64_w, i32_w]; rfl)
                            refine pu_ ?_ 37 (some 134) skiarealaw52_ClosureHeld.b36 rfl rfl HT_ (by kernel_rfl) (fun _ _ _ h => h) (by rfl) ?_ ?_ ?_ ?_; rotate_left; (intro w'; go_simp; with_reducible rfl); rotate_left; (simp only [Act.put, sA_, sB_, sC_, i64_w, i32_w]; rfl)
                            refine take_ (i := 35) (N := some 132) (v := ?_) (a' := ?_) skiarealaw52_ClosureHeld.b37 rfl rfl (take_ofW HT_.out HW_.out (by kernel_rfl)) (fun _ _ _ h => h) (Or.inl ⟨by rfl, ?_⟩) hHeld ?_ ?_
                            rotate_left
                            ·
                             rintro w' ⟨s0, s1, s2, s3, s4, s5, s6, s7, s8, s9, s10, s11, s12, s13, s14, s15⟩; go_simp
                             with_reducible rfl
                            rotate_left
                            ·
                             simp only [Act.put, List.setIfInBounds_toArray, List.set_cons_zero, List.set_cons_succ, i64_w, i32_w]; rfl
                            refine pu_ ?_ 38 (some 135) skiarealaw52_ClosureHeld.b38 rfl rfl HT_ (by kernel_rfl) (fun _ _ _ h => h) (by rfl) ?_ ?_ ?_ ?_; rotate_left; (intro w'; go_simp; with_reducible rfl); rotate_left; (simp only [Act.put, sA_, sB_, sC_, i64_w, i32_w]; rfl)
                            refine pu_ ?_ 39 (some 136) skiarealaw52_ClosureHeld.b39 rfl rfl HT_ (by kernel_rfl) (fun _ _ _ h => h) (by rfl) ?_ ?_ ?_ ?_; rotate_left; (intro w'; go_simp; with_reducible rfl); rotate_left; (simp only [Act.put, sA_, sB_, sC_, i64_w, i32_w]; rfl)
                            refine pu_ ?_ 40 (some 137) skiarealaw52_ClosureHeld.b40 rfl rfl HT_ (by kernel_rfl) (fun _ _ _ h => h) (by rfl) ?_ ?_ ?_ ?_; rotate_left; (intro w'; go_simp; with_reducible rfl); rotate_left; (simp only [Act.put, sA_, sB_, sC_, i64_w, i32_w]; rfl)
                            refine pu_ ?_ 41 (some 138) skiarealaw52_ClosureHeld.b41 rfl rfl HT_ (by kernel_rfl) (fun _ _ _ h => h) (by rfl) ?_ ?_ ?_ ?_; rotate_left; (intro w'; go_simp; with_reducible rfl); rotate_left; (simp only [Act.put, sA_, sB_, sC_, i64_w, i32_w]; rfl)
                            refine pu_ ?_ 42 (some 139) skiarealaw52_ClosureHeld.b42 rfl rfl HT_ (by kernel_rfl) (fun _ _ _ h => h) (by rfl) ?_ ?_ ?_ ?_; rotate_left; (intro w'; go_simp; with_reducible rfl); rotate_left; (simp only [Act.put, sA_, sB_, sC_, i64_w, i32_w]; rfl)
                            refine one_ (i := 43) (N := some 140) skiarealaw52_ClosureHeld.b43 rfl rfl (one_of HT_.out (by kernel_rfl)) (by decide) (fun K hK => ?_)
                            refine goes_ Try.func10 (by kernel_rfl) rfl #[.slice (some ad407) x10_16.length co38] (by rfl) rfl rfl (by (try simp only [List.map_toArray, List.map_cons, List.map_nil]); first | done | rfl | (simp only [List.length_drop, List.length_take]; rfl)) ?_
                            with_reducible refine (closure_Right.calls kj34 _ _ x10_16 t409 _ ?side1 ?side2 A61.out).mono ?_
                            (case side1 => repeat (first | exact (Kd.R_reads' HO_10.out).2.2 | (with_reducible refine Kd.cA_ ?_ _) | (with_reducible refine Kd.cN_ ?_ _) | (with_reducible refine Kd.cD_ ?_))); (case side2 => exact (Kd.R_reads' HO_10.out).2.1); rintro e w67 ⟨rfl, hb⟩; try have HS3_ := (hb.cell (World.block_lt_of_cell? _ _ (hHeld.2.2.2.1))).trans (hHeld.2.2.2.1)
                            try have HS4_ := (hb.cell (World.block_lt_of_cell? _ _ (hHeld.2.2.2.2.1))).trans (hHeld.2.2.2.2.1)
                            try have HS5_ := (hb.cell (World.block_lt_of_cell? _ _ (hHeld.2.2.2.2.2.1))).trans (hHeld.2.2.2.2.2.1)
                            try have HS6_ := (hb.cell (World.block_lt_of_cell? _ _ (hHeld.2.2.2.2.2.2.1))).trans (hHeld.2.2.2.2.2.2.1)
                            try have HS7_ := (hb.cell (World.block_lt_of_cell? _ _ (hHeld.2.2.2.2.2.2.2.1))).trans (hHeld.2.2.2.2.2.2.2.1)
                            try have HS8_ := (hb.cell (World.block_lt_of_cell? _ _ (hHeld.2.2.2.2.2.2.2.2.1))).trans (hHeld.2.2.2.2.2.2.2.2.1)
                            try have HS9_ := (hb.cell (World.block_lt_of_cell? _ _ (hHeld.2.2.2.2.2.2.2.2.2.1))).trans (hHeld.2.2.2.2.2.2.2.2.2.1)
                            try have HS10_ := (hb.cell (World.block_lt_of_cell? _ _ (hHeld.2.2.2.2.2.2.2.2.2.2.1))).trans (hHeld.2.2.2.2.2.2.2.2.2.2.1)
                            refine ⟨_, rfl, ?_⟩
                            have n0_ := Aside0.mk (Kd.V_below (by (with_reducible repeat (first | apply Kd.V_alloc | apply Kd.V_drewN | apply Kd.V_drew)); exact HO_0.out) hb); have n1_ := Aside0.mk (Kd.R_below (by (with_reducible repeat (first | apply Kd.rA_ | apply Kd.rN_ | apply Kd.rD_)); exact HO_10.out) hb); have n2_ := Aside0.mk (blk_below (g := gb390) (o := .cells #[.int .i64 a2_0, .int .i64 a2_1, .int .i64 a2_2] 30 (0, 0)) (by (with_reducible repeat (first | refine bN_ ?_ _ | refine bD_ ?_ | refine bA_ ?_ _)); exact BK390.out) hb); have n3_ := Aside0.mk (blk_below (g := gb394) (o := .cells #[.int .i64 ((rd_T50 l1 x7_2).f1.f0), .int .i64 ((rd_T50 l1 x7_2).f1.f1), .int .i64 ((rd_T50 l1 x7_2).f1.f2), .int .i64 ((rd_T50 l1 x7_2).f1.f3)] 28 (0, 0)) (by (with_reducible repeat (first | refine bN_ ?_ _ | refine bD_ ?_ | refine bA_ ?_ _)); exact BK394.out) hb); have n4_ := Aside0.mk (below_step (by repeat (first | (with_reducible first | exact HB.out | apply lA_ | apply lN_ | apply lD_ | refine lS_ ?_ GE390.out | refine lS_ ?_ GE394.out) | exact HB.out)) hb); clear HO_0; clear HO_10; clear BK390; clear BK394; clear HB; have HO_0 := n0_; have HO_10 := n1_; have BK390 := n2_; have BK394 := n3_; have HB := n4_; clear n0_ n1_ n2_ n3_ n4_; (try clear hb); (try clear hb2); (try clear hk); (try clear hi); refine hK.out _ _ ⟨(blk_cell BK390.out 0).trans rfl, (blk_cell BK390.out 1).trans rfl, (blk_cell BK390.out 2).trans rfl, HS3_, HS4_, HS5_, HS6_, HS7_, HS8_, HS9_, HS10_, ((HB.out.cell (World.block_lt_of_cell? w _ hw408_0)).trans hw408_0), ((HB.out.cell (World.block_lt_of_cell? w _ hw408_1)).trans hw408_1), ((HB.out.cell (World.block_lt_of_cell? w _ hw408_2)).trans hw408_2), ((HB.out.cell (World.block_lt_of_cell? w _ hw408_3)).trans hw408_3), ((HB.out.cell (World.block_lt_of_cell? w _ hw408_4)).trans hw408_4)⟩ (fun hHeld => ?_)
                            clear hK K; refine norm_ (a' := ?_) ?_ ?_
                            rotate_left
                            ·
                             show Act.put _ (some 140) _ = _
                             simp only [Act.put, List.setIfInBounds_toArray, List.set_cons_zero, List.set_cons_succ, i64_w, i32_w]; rfl
                            refine pu_ ?_ 44 (some 141) skiarealaw52_ClosureHeld.b44 rfl rfl HT_ (by kernel_rfl) (fun _ _ _ h => h) (by rfl) ?_ ?_ ?_ ?_; rotate_left; (intro w'; go_simp; with_reducible rfl); rotate_left; (simp only [Act.put, sA_, sB_, sC_, i64_w, i32_w]; rfl)
                            refine pu_ ?_ 45 (some 142) skiarealaw52_ClosureHeld.b45 rfl rfl HT_ (by kernel_rfl) (fun _ _ _ h => h) (by rfl) ?_ ?_ ?_ ?_; rotate_left; (intro w'; go_simp; with_reducible rfl); rotate_left; (simp only [Act.put, sA_, sB_, sC_, i64_w, i32_w]; rfl)
                            refine pu_ ?_ 46 (some 143) skiarealaw52_ClosureHeld.b46 rfl rfl HT_ (by kernel_rfl) (fun _ _ _ h => h) (by rfl) ?_ ?_ ?_ ?_; rotate_left; (intro w'; go_simp; with_reducible rfl); rotate_left; (simp only [Act.put, sA_, sB_, sC_, i64_w, i32_w]; rfl)
                            refine pu_ ?_ 47 (some 144) skiarealaw52_ClosureHeld.b47 rfl rfl HT_ (by kernel_rfl) (fun _ _ _ h => h) (by rfl) ?_ ?_ ?_ ?_; rotate_left; (intro w'; go_simp; with_reducible rfl); rotate_left; (simp only [Act.put, sA_, sB_, sC_, i64_w, i32_w]; rfl)
                            refine pu_ ?_ 48 (some 145) skiarealaw52_ClosureHeld.b48 rfl rfl HT_ (by kernel_rfl) (fun _ _ _ h => h) (by rfl) ?_ ?_ ?_ ?_; rotate_left; (intro w'; go_simp; with_reducible rfl); rotate_left; (simp only [Act.put, sA_, sB_, sC_, i64_w, i32_w]; rfl)
                            refine pu_ ?_ 50 (some 147) skiarealaw52_ClosureHeld.b49 rfl rfl HT_ (by kernel_rfl) (fun _ _ _ h => h) (by rfl) ?_ ?_ ?_ ?_; rotate_left; (intro w'; go_simp; with_reducible rfl); rotate_left; (simp only [Act.put, sA_, sB_, sC_, i64_w, i32_w]; rfl)
                            refine pu_ ?_ 53 (some 150) skiarealaw52_ClosureHeld.b50 rfl rfl HT_ (by kernel_rfl) (fun _ _ _ h => h) (by rfl) ?_ ?_ ?_ ?_; rotate_left; (intro w'; go_simp; with_reducible rfl); rotate_left; (simp only [Act.put, sA_, sB_, sC_, i64_w, i32_w]; rfl)
                            refine pu_ ?_ 56 (some 153) skiarealaw52_ClosureHeld.b51 rfl rfl HT_ (by kernel_rfl) (fun _ _ _ h => h) (by rfl) ?_ ?_ ?_ ?_; rotate_left; (intro w'; go_simp; with_reducible rfl); rotate_left; (simp only [Act.put, sA_, sB_, sC_, i64_w, i32_w]; rfl)
                            refine pu_ ?_ 57 (some 154) skiarealaw52_ClosureHeld.b52 rfl rfl HT_ (by kernel_rfl) (fun _ _ _ h => h) (by rfl) ?_ ?_ ?_ ?_; rotate_left; (intro w'; go_simp; with_reducible rfl); rotate_left; (simp only [Act.put, sA_, sB_, sC_, i64_w, i32_w]; rfl)
                            refine take_ (i := 49) (N := some 146) (v := ?_) (a' := ?_) skiarealaw52_ClosureHeld.b53 rfl rfl (take_ofW HT_.out HW_.out (by kernel_rfl)) (fun _ _ _ h => h) (Or.inl ⟨by rfl, ?_⟩) hHeld ?_ ?_
                            rotate_left
                            ·
                             rintro w' ⟨s0, s1, s2, s3, s4, s5, s6, s7, s8, s9, s10, s11, s12, s13, s14, s15⟩; go_simp
                             with_reducible rfl
                            rotate_left
                            ·
                             simp only [Act.put, List.setIfInBounds_toArray, List.set_cons_zero, List.set_cons_succ, i64_w, i32_w]; rfl
                            refine take_ (i := 51) (N := some 148) (v := ?_) (a' := ?_) skiarealaw52_ClosureHeld.b54 rfl rfl (take_ofW HT_.out HW_.out (by kernel_rfl)) (fun _ _ _ h => h) (Or.inl ⟨by rfl, ?_⟩) hHeld ?_ ?_
                            rotate_left
                            ·
                             rintro w' ⟨s0, s1, s2, s3, s4, s5, s6, s7, s8, s9, s10, s11, s12, s13, s14, s15⟩; go_simp
                             with_reducible rfl
                            rotate_left
                            ·
                             simp only [Act.put, List.setIfInBounds_toArray, List.set_cons_zero, List.set_cons_succ, i64_w, i32_w]; rfl
                            refine take_ (i := 54) (N := some 151) (v := ?_) (a' := ?_) skiarealaw52_ClosureHeld.b55 rfl rfl (take_ofW HT_.out HW_.out (by kernel_rfl)) (fun _ _ _ h => h) (Or.inl ⟨by rfl, ?_⟩) hHeld ?_ ?_
                            rotate_left
                            ·
                             rintro w' ⟨s0, s1, s2, s3, s4, s5, s6, s7, s8, s9, s10, s11, s12, s13, s14, s15⟩; go_simp
                             with_reducible rfl
                            rotate_left
                            ·
                             simp only [Act.put, List.setIfInBounds_toArray, List.set_cons_zero, List.set_cons_succ, i64_w, i32_w]; rfl
                            refine one_ (i := 52) (N := some 149) skiarealaw52_ClosureHeld.b56 rfl rfl (one_of HT_.out (by kernel_rfl)) (by decide) (fun K hK => ?_)
                            refine goes_ Try.func20 (by kernel_rfl) rfl #[.slice (some ad407) x10_16.length co38, .int .i64 a2_0, .int .i64 a2_1] (by rfl) rfl rfl (by (try simp only [List.map_toArray, List.map_cons, List.map_nil]); first | done | rfl | (simp only [List.length_drop, List.length_take]; rfl)) ?_
                            with_reducible refine (closure_Of.calls kj34 _ _ x10_16 a2_0 a2_1 t410 _ ?side1 ?side2 A63.out).mono ?_
                            (case side1 => repeat (first | exact (Kd.R_reads' HO_10.out).2.2 | (with_reducible refine Kd.cA_ ?_ _) | (with_reducible refine Kd.cN_ ?_ _) | (with_reducible refine Kd.cD_ ?_))); (case side2 => exact (Kd.R_reads' HO_10.out).2.1); rintro e w68 ⟨v411, rfl, ho0, hb⟩; try have HS3_ := (hb.cell (World.block_lt_of_cell? _ _ (hHeld.2.2.2.1))).trans (hHeld.2.2.2.1)
                            try have HS4_ := (hb.cell (World.block_lt_of_cell? _ _ (hHeld.2.2.2.2.1))).trans (hHeld.2.2.2.2.1)
                            try have HS5_ := (hb.cell (World.block_lt_of_cell? _ _ (hHeld.2.2.2.2.2.1))).trans (hHeld.2.2.2.2.2.1)
                            try have HS6_ := (hb.cell (World.block_lt_of_cell? _ _ (hHeld.2.2.2.2.2.2.1))).trans (hHeld.2.2.2.2.2.2.1)
                            try have HS7_ := (hb.cell (World.block_lt_of_cell? _ _ (hHeld.2.2.2.2.2.2.2.1))).trans (hHeld.2.2.2.2.2.2.2.1)
                            try have HS8_ := (hb.cell (World.block_lt_of_cell? _ _ (hHeld.2.2.2.2.2.2.2.2.1))).trans (hHeld.2.2.2.2.2.2.2.2.1)
                            try have HS9_ := (hb.cell (World.block_lt_of_cell? _ _ (hHeld.2.2.2.2.2.2.2.2.2.1))).trans (hHeld.2.2.2.2.2.2.2.2.2.1)
                            try have HS10_ := (hb.cell (World.block_lt_of_cell? _ _ (hHeld.2.2.2.2.2.2.2.2.2.2.1))).trans (hHeld.2.2.2.2.2.2.2.2.2.2.1)
                            refine ⟨_, rfl, ?_⟩
                            have n0_ := Aside0.mk (Kd.V_elder' (by (with_reducible repeat (first | apply Kd.V_alloc | apply Kd.V_drewN | apply Kd.V_drew)); exact HO_0.out) (Kd.R_base ho0) hb); have n1_ := Aside0.mk (Kd.R_below (by (with_reducible repeat (first | apply Kd.rA_ | apply Kd.rN_ | apply Kd.rD_)); exact HO_10.out) hb); have n2_ := Aside0.mk (Kd.R_lower (Kd.R_newM (M := fun k_ => (w.heap.size ≤ k_)) ho0 (below_size (by repeat (first | (with_reducible first | exact HB.out | apply lA_ | apply lN_ | apply lD_ | refine lS_ ?_ GE390.out | refine lS_ ?_ GE394.out) | exact HB.out))) (fun k_ h_ => h_)) (below_size (by repeat (first | (with_reducible first | exact HB.out | apply lA_ | apply lN_ | apply lD_ | refine lS_ ?_ GE390.out | refine lS_ ?_ GE394.out) | exact HB.out)))); have n3_ := Aside0.mk (blk_below (g := gb390) (o := .cells #[.int .i64 a2_0, .int .i64 a2_1, .int .i64 a2_2] 30 (0, 0)) (by (with_reducible repeat (first | refine bN_ ?_ _ | refine bD_ ?_ | refine bA_ ?_ _)); exact BK390.out) hb); have n4_ := Aside0.mk (blk_below (g := gb394) (o := .cells #[.int .i64 ((rd_T50 l1 x7_2).f1.f0), .int .i64 ((rd_T50 l1 x7_2).f1.f1), .int .i64 ((rd_T50 l1 x7_2).f1.f2), .int .i64 ((rd_T50 l1 x7_2).f1.f3)] 28 (0, 0)) (by (with_reducible repeat (first | refine bN_ ?_ _ | refine bD_ ?_ | refine bA_ ?_ _)); exact BK394.out) hb); have n5_ := Aside0.mk (below_step (by repeat (first | (with_reducible first | exact HB.out | apply lA_ | apply lN_ | apply lD_ | refine lS_ ?_ GE390.out | refine lS_ ?_ GE394.out) | exact HB.out)) hb); clear HO_0; clear HO_10; clear BK390; clear BK394; clear HB; have HO_0 := n0_; have HO_10 := n1_; have HO412 := n2_; have BK390 := n3_; have BK394 := n4_; have HB := n5_; clear n0_ n1_ n2_ n3_ n4_ n5_; (try clear hb); (try clear hb2); (try clear hk); (try clear hi); (try clear ho0); obtain ⟨Ao69, co69, eo69⟩ := Kd.R_slice HO412.out; (first | subst eo69 | (injection eo69 with f1_ f2_ f3_; have f4_ := f1_.symm; have f5_ := f3_.symm; clear f1_ f2_ f3_; subst f4_; subst f5_))
                            refine hK.out _ _ ⟨(blk_cell BK390.out 0).trans rfl, (blk_cell BK390.out 1).trans rfl, (blk_cell BK390.out 2).trans rfl, HS3_, HS4_, HS5_, HS6_, HS7_, HS8_, HS9_, HS10_, ((HB.out.cell (World.block_lt_of_cell? w _ hw408_0)).trans hw408_0), ((HB.out.cell (World.block_lt_of_cell? w _ hw408_1)).trans hw408_1), ((HB.out.cell (World.block_lt_of_cell? w _ hw408_2)).trans hw408_2), ((HB.out.cell (World.block_lt_of_cell? w _ hw408_3)).trans hw408_3), ((HB.out.cell (World.block_lt_of_cell? w _ hw408_4)).trans hw408_4)⟩ (fun hHeld => ?_)
                            clear hK K; refine norm_ (a' := ?_) ?_ ?_
                            rotate_left
                            ·
                             show Act.put _ (some 149) _ = _
                             simp only [Act.put, List.setIfInBounds_toArray, List.set_cons_zero, List.set_cons_succ, i64_w, i32_w]; rfl
                            refine one_ (i := 55) (N := some 152) skiarealaw52_ClosureHeld.b57 rfl rfl (one_of HT_.out (by kernel_rfl)) (by decide) (fun K hK => ?_)
                            refine goes_ Try.func27 (by kernel_rfl) rfl #[.slice Ao69 t410.length co69, .int .i64 a2_2] (by rfl) rfl rfl (by (try simp only [List.map_toArray, List.map_cons, List.map_nil]); first | done | rfl | (simp only [List.length_drop, List.length_take]; rfl)) ?_
                            with_reducible refine (skiarealaw52_has.calls kj34 _ _ t410 a2_2 t413 _ ?side1 ?side2 A64.out).mono ?_
                            (case side1 => repeat (first | exact (Kd.R_reads' HO412.out).2.2 | (with_reducible refine Kd.cA_ ?_ _) | (with_reducible refine Kd.cN_ ?_ _) | (with_reducible refine Kd.cD_ ?_))); (case side2 => exact (Kd.R_reads' HO412.out).2.1); rintro e w' ⟨rfl, ⟨nd, rfl⟩⟩; refine ⟨_, rfl, ?_⟩
                            refine hK.out _ _ ⟨(blk_cell BK390.out 0).trans rfl, (blk_cell BK390.out 1).trans rfl, (blk_cell BK390.out 2).trans rfl, hHeld.2.2.2.1, hHeld.2.2.2.2.1, hHeld.2.2.2.2.2.1, hHeld.2.2.2.2.2.2.1, hHeld.2.2.2.2.2.2.2.1, hHeld.2.2.2.2.2.2.2.2.1, hHeld.2.2.2.2.2.2.2.2.2.1, hHeld.2.2.2.2.2.2.2.2.2.2.1, ((HB.out.cell (World.block_lt_of_cell? w _ hw408_0)).trans hw408_0), ((HB.out.cell (World.block_lt_of_cell? w _ hw408_1)).trans hw408_1), ((HB.out.cell (World.block_lt_of_cell? w _ hw408_2)).trans hw408_2), ((HB.out.cell (World.block_lt_of_cell? w _ hw408_3)).trans hw408_3), ((HB.out.cell (World.block_lt_of_cell? w _ hw408_4)).trans hw408_4)⟩ (fun hHeld => ?_)
                            clear hK K; refine norm_ (a' := ?_) ?_ ?_
                            rotate_left
                            ·
                             show Act.put _ (some 152) _ = _
                             simp only [Act.put, List.setIfInBounds_toArray, List.set_cons_zero, List.set_cons_succ, i64_w, i32_w]; rfl
                            refine pu_ ?_ 58 (some 155) skiarealaw52_ClosureHeld.b58 rfl rfl HT_ (by kernel_rfl) (fun _ _ _ h => h) (by rfl) ?_ ?_ ?_ ?_; rotate_left; (intro w'; go_simp; with_reducible rfl); rotate_left; (simp only [Act.put, sA_, sB_, sC_, i64_w, i32_w]; rfl)
                            refine pu_ ?_ 59 (some 156) skiarealaw52_ClosureHeld.b59 rfl rfl HT_ (by kernel_rfl) (fun _ _ _ h => h) (by rfl) ?_ ?_ ?_ ?_; rotate_left; (intro w'; go_simp; with_reducible rfl); rotate_left; (simp only [Act.put, sA_, sB_, sC_, i64_w, i32_w]; rfl)
                            refine done_ (done_of HT_.out (by kernel_rfl)) ?_
                            try go_wp2
                            go_roundg kj34
                            case measure => have := HJ5.out; have := HK2.out; have := HJ16.out; have := HJ34.out; omega
                            case rel => exact ⟨(x10_16), (wrap64 (x7_2 + 1)), (by first | rfl | (simp; done) | (simp [*]; done)), H', ⟨by have := HJ5.out; have := HK2.out; have := HJ16.out; have := HJ34.out; omega⟩, ⟨Kd.R_V (by (with_reducible repeat (first | apply Kd.rA_ | apply Kd.rN_ | apply Kd.rD_)); exact Kd.R_mono (Kd.R_types HO_10.out BK390.out (by decide)) (fun k_ hk => ⟨.inr hk.1.1, hk.2⟩))⟩, ⟨by (with_reducible repeat (first | refine bN_ ?_ _ | refine bD_ ?_ | refine bA_ ?_ _)); exact BK390.out⟩, ⟨by repeat (first | (with_reducible first | exact HB.out | apply lA_ | apply lN_ | apply lD_ | refine lS_ ?_ GE390.out | refine lS_ ?_ GE394.out) | exact HB.out)⟩⟩
                         ·
                          rw [if_neg c62] at H
                          have c62b0 : (t409 == 0) = false := beq_eq_false_iff_ne.mpr c62; have c62b1 : (t409 != 0) = true := bne_iff_ne.mpr c62
                          exact absurd H (by simp)
                       ·
                        rw [if_neg c59] at H
                        exact absurd H (by simp)
                      ·
                       rw [if_neg c58] at H
                       exact absurd H (by simp)
                    ·
                     rw [if_neg c56] at H
                     exact absurd H (by simp)
                   ·
                    rw [if_neg c55] at H
                    exact absurd H (by simp)
                  ·
                   rw [if_neg c54] at H
                   exact absurd H (by simp)
                 ·
                  rw [if_neg c53] at H
                  exact absurd H (by simp)
                ·
                 rw [if_neg c52] at H
                 have c52b0 : decide (0 ≤ t405) = false := decide_eq_false c52; clear c52; by_cases c70 : 0 ≤ x7_2
                 ·
                  rw [if_pos c70] at H
                  have c70b0 : decide (0 ≤ x7_2) = true := decide_eq_true c70; clear c70; by_cases c71 : x7_2 < (l1.length : Int)
                  ·
                   rw [if_pos c71] at H
                   have c71b0 : decide (x7_2 < (l1.length : Int)) = true := decide_eq_true c71; clear c71; by_cases c72 : (((rd_T50 l1 x7_2).f0) != (decide (t405 < 0))) = true
                   ·
                    rw [if_pos c72] at H
                    have c72b0 : (((rd_T50 l1 x7_2).f0) != (decide (t405 < 0))) = true := c72; (try (have c72b1 : decide (((rd_T50 l1 x7_2).f0) = (decide (t405 < 0))) = false := by simpa using c72))
                    (try (have c72b2 : (((rd_T50 l1 x7_2).f0) == (decide (t405 < 0))) = false := by simpa using c72))
                    (try (have c72b3 : ¬ (((rd_T50 l1 x7_2).f0) = (decide (t405 < 0))) := by simpa using c72))
                    clear c72
                    exact absurd H (by simp)
                   ·
                    rw [if_neg c72] at H
                    have c72b0 : (((rd_T50 l1 x7_2).f0) != (decide (t405 < 0))) = false := by simpa using c72
                    (try (have c72b1 : decide (((rd_T50 l1 x7_2).f0) = (decide (t405 < 0))) = true := by simpa using c72))
                    (try (have c72b2 : (((rd_T50 l1 x7_2).f0) == (decide (t405 < 0))) = true := by simpa using c72))
                    clear c72; replace H := Option.bind_eq_some_iff.mp H; obtain ⟨t415, A730, H⟩ := H; replace H : (if t415 = 0 then ((closure_Of.f kj34 x10_16 a2_0 a2_1).bind fun t416 => ((skiarealaw52_has.f kj34 t416 a2_2).bind fun t419 => (if (t419 != (decide (t405 ≥ 0))) = true then (none) else (skiarealaw52_ClosureHeld.l0 kj34 x10_16 l1 (wrap64 (x7_2 + 1)) a2_0 a2_1 a2_2)))) else (none)) = some r := H; have A73 := Aside0.mk A730; clear A730; by_cases c74 : t415 = 0
                    ·
                     rw [if_pos c74] at H
                     have c74b0 : (t415 == 0) = true := beq_iff_eq.mpr c74; have c74b1 : (t415 != 0) = false := bne_eq_false_iff_eq.mpr c74; clear c74; replace H := Option.bind_eq_some_iff.mp H; obtain ⟨t416, A750, H⟩ := H; replace H : ((skiarealaw52_has.f kj34 t416 a2_2).bind fun t419 => (if (t419 != (decide (t405 ≥ 0))) = true then (none) else (skiarealaw52_ClosureHeld.l0 kj34 x10_16 l1 (wrap64 (x7_2 + 1)) a2_0 a2_1 a2_2))) = some r := H; have A75 := Aside0.mk A750; clear A750; replace H := Option.bind_eq_some_iff.mp H; obtain ⟨t419, A760, H⟩ := H; replace H : (if (t419 != (decide (t405 ≥ 0))) = true then (none) else (skiarealaw52_ClosureHeld.l0 kj34 x10_16 l1 (wrap64 (x7_2 + 1)) a2_0 a2_1 a2_2)) = some r := H; have A76 := Aside0.mk A760; clear A760; by_cases c77 : (t419 != (decide (t405 ≥ 0))) = true
                     ·
                      rw [if_pos c77] at H
                      exact absurd H (by simp)
                     ·
                      rw [if_neg c77] at H
                      have c77b0 : (t419 != (decide (t405 ≥ 0))) = false := by simpa using c77
                      (first | (have c77z : t419 = true := (bne_eq_false_iff_eq.1 c77b0).trans (decide_eq_true (of_decide_eq_true (show decide (0 ≤ t405) = true by assumption)))) | (have c77z : t419 = false := (bne_eq_false_iff_eq.1 c77b0).trans (decide_eq_false (of_decide_eq_false (show decide (0 ≤ t405) = false by assumption)))) | skip)
                      (try (have c77b1 : decide (t419 = (decide (t405 ≥ 0))) = true := by simpa using c77))
                      (try (have c77b2 : (t419 == (decide (t405 ≥ 0))) = true := by simpa using c77))
                      clear c77; have H' := Aside0.mk H; clear H; try go_wp2
                      have n0_ := Aside0.mk (Kd.V_drew HO_0.out); have n1_ := Aside0.mk (Kd.rD_ HO_10.out); have n2_ := Aside0.mk (bD_ BK390.out); have n3_ := Aside0.mk (bD_ BK394.out); have n4_ := Aside0.mk (lD_ HB.out); clear HO_0; clear HO_10; clear BK390; clear BK394; clear HB; have HO_0 := n0_; have HO_10 := n1_; have BK390 := n2_; have BK394 := n3_; have HB := n4_; clear n0_ n1_ n2_ n3_ n4_; have p414 : 0 ≤ (x7_2 : Int) := of_decide_eq_true (by first | (with_reducible assumption) | assumption); have q414 : x7_2 < (l1.length : Int) := of_decide_eq_true (by first | (with_reducible assumption) | assumption); obtain ⟨ad414, e414, hx414_0, hx414_1, hx414_2, hx414_3, hx414_4⟩ := at_T50 HR1.out x7_2 p414 q414; have hw414_4 := hx414_4; have hw414_3 := hx414_3; have hw414_2 := hx414_2; have hw414_1 := hx414_1; have hw414_0 := hx414_0; obtain rfl : ad393 = ad414 := (by injection e414); replace hx414_0 := (HB.out.cell (World.block_lt_of_cell? w _ hx414_0)).trans hx414_0; replace hx414_1 := (HB.out.cell (World.block_lt_of_cell? w _ hx414_1)).trans hx414_1; replace hx414_2 := (HB.out.cell (World.block_lt_of_cell? w _ hx414_2)).trans hx414_2; replace hx414_3 := (HB.out.cell (World.block_lt_of_cell? w _ hx414_3)).trans hx414_3; replace hx414_4 := (HB.out.cell (World.block_lt_of_cell? w _ hx414_4)).trans hx414_4; replace p414 := eq_true p414; replace q414 := eq_true q414
                      as_aux_lemma =>
                       refine start_ (n := 60) (S := fun w' => w'.cell? ⟨gb390, 0, none⟩ = some (.int .i64 a2_0) ∧ w'.cell? ⟨gb390, 1, none⟩ = some (.int .i64 a2_1) ∧ w'.cell? ⟨gb390, 2, none⟩ = some (.int .i64 a2_2) ∧ w'.cell? (ad393.add ((x7_2).toNat * 5)) = some (.bool ((rd_T50 l1 x7_2).f0)) ∧ w'.cell? ⟨(ad393.add ((x7_2).toNat * 5)).block, (ad393.add ((x7_2).toNat * 5)).off + 1, none⟩ = some (.int .i64 ((rd_T50 l1 x7_2).f1.f0)) ∧ w'.cell? ⟨(ad393.add ((x7_2).toNat * 5)).block, (ad393.add ((x7_2).toNat * 5)).off + 2, none⟩ = some (.int .i64 ((rd_T50 l1 x7_2).f1.f1)) ∧ w'.cell? ⟨(ad393.add ((x7_2).toNat * 5)).block, (ad393.add ((x7_2).toNat * 5)).off + 3, none⟩ = some (.int .i64 ((rd_T50 l1 x7_2).f1.f2)) ∧ w'.cell? ⟨(ad393.add ((x7_2).toNat * 5)).block, (ad393.add ((x7_2).toNat * 5)).off + 4, none⟩ = some (.int .i64 ((rd_T50 l1 x7_2).f1.f3))) (ds := []) #[false, false, false, false, false, false, false, false, false, false, false, false, false, false, false, false, false, false, false, false, false, false, false, false, false, false, false, false, false, false, false, false, false, false, false, false, false, false, false, false, false, false, false, false, false, false, false, false, false, false, false, false, false, false, false, false, false, false, false, false] (by kernel_rfl) rfl rfl ⟨(blk_cell BK390.out 0).trans rfl, (blk_cell BK390.out 1).trans rfl, (blk_cell BK390.out 2).trans rfl, ((HB.out.cell (World.block_lt_of_cell? w _ hw414_0)).trans hw414_0), ((HB.out.cell (World.block_lt_of_cell? w _ hw414_1)).trans hw414_1), ((HB.out.cell (World.block_lt_of_cell? w _ hw414_2)).trans hw414_2), ((HB.out.cell (World.block_lt_of_cell? w _ hw414_3)).trans hw414_3), ((HB.out.cell (World.block_lt_of_cell? w _ hw414_4)).trans hw414_4)⟩ (fun hHeld => ?_); refine with_tabW skiarealaw52_ClosureHeld.tab20 skiarealaw52_ClosureHeld.bits20 (fun HT_ HW_ => ?_)
                       generalize wc.drew = w78 at HO_0 HO_10 BK390 BK394 HB hx414_0 hx414_1 hx414_2 hx414_3 hx414_4 hHeld ⊢
                       refine pu_ ?_ 0 (some 97) skiarealaw52_ClosureHeld.b0 rfl rfl HT_ (by kernel_rfl) (fun _ _ _ h => h) (by rfl) ?_ ?_ ?_ ?_; rotate_left; (intro w'; go_simp; with_reducible rfl); rotate_left; (simp only [Act.put, sA_, sB_, sC_, i64_w, i32_w]; rfl)
                       refine pu_ ?_ 1 (some 98) skiarealaw52_ClosureHeld.b1 rfl rfl HT_ (by kernel_rfl) (fun _ _ _ h => h) (by rfl) ?_ ?_ ?_ ?_; rotate_left; (intro w'; go_simp; with_reducible rfl); rotate_left; (simp only [Act.put, sA_, sB_, sC_, i64_w, i32_w]; rfl)
                       refine pu_ ?_ 2 (some 99) skiarealaw52_ClosureHeld.b2 rfl rfl HT_ (by kernel_rfl) (fun _ _ _ h => h) (by rfl) ?_ ?_ ?_ ?_; rotate_left; (intro w'; go_simp; with_reducible rfl); rotate_left; (simp only [Act.put, sA_, sB_, sC_, i64_w, i32_w]; rfl)
                       refine pn_ ?_ 3 (some 100) skiarealaw52_ClosureHeld.b3 rfl rfl HT_ (by kernel_rfl) (fun _ _ _ h => h) (by rfl) ?_ ?_; rotate_left; (simp only [Act.put, sA_, sB_, sC_, i64_w, i32_w]; rfl)
                       refine pn_ ?_ 4 (some 101) skiarealaw52_ClosureHeld.b4 rfl rfl HT_ (by kernel_rfl) (fun _ _ _ h => h) (by rfl) ?_ ?_; rotate_left; (simp only [Act.put, sA_, sB_, sC_, i64_w, i32_w]; rfl)
                       refine pn_ ?_ 5 (some 102) skiarealaw52_ClosureHeld.b5 rfl rfl HT_ (by kernel_rfl) (fun _ _ _ h => h) (by rfl) ?_ ?_; rotate_left; (simp only [Act.put, sA_, sB_, sC_, i64_w, i32_w]; rfl)
                       refine pn_ ?_ 6 (some 103) skiarealaw52_ClosureHeld.b6 rfl rfl HT_ (by kernel_rfl) (fun _ _ _ h => h) (by rfl) ?_ ?_; rotate_left; (simp only [Act.put, sA_, sB_, sC_, i64_w, i32_w]; rfl)
                       refine pn_ ?_ 7 (some 104) skiarealaw52_ClosureHeld.b7 rfl rfl HT_ (by kernel_rfl) (fun _ _ _ h => h) (by rfl) ?_ ?_; rotate_left; (simp only [Act.put, sA_, sB_, sC_, i64_w, i32_w]; rfl)
                       refine pu_ ?_ 8 (some 105) skiarealaw52_ClosureHeld.b8 rfl rfl HT_ (by kernel_rfl) (fun _ _ _ h => h) (by rfl) ?_ ?_ ?_ ?_; rotate_left; (intro w'; go_simp; with_reducible rfl); rotate_left; (simp only [Act.put, sA_, sB_, sC_, i64_w, i32_w]; rfl)
                       refine pu_ ?_ 9 (some 106) skiarealaw52_ClosureHeld.b9 rfl rfl HT_ (by kernel_rfl) (fun _ _ _ h => h) (by rfl) ?_ ?_ ?_ ?_; rotate_left; (intro w'; go_simp; with_reducible rfl); rotate_left; (simp only [Act.put, sA_, sB_, sC_, i64_w, i32_w]; rfl)
                       refine pu_ ?_ 10 (some 107) skiarealaw52_ClosureHeld.b10 rfl rfl HT_ (by kernel_rfl) (fun _ _ _ h => h) (by rfl) ?_ ?_ ?_ ?_; rotate_left; (intro w'; go_simp; with_reducible rfl); rotate_left; (simp only [Act.put, sA_, sB_, sC_, i64_w, i32_w]; rfl)
                       refine pu_ ?_ 11 (some 108) skiarealaw52_ClosureHeld.b11 rfl rfl HT_ (by kernel_rfl) (fun _ _ _ h => h) (by rfl) ?_ ?_ ?_ ?_; rotate_left; (intro w'; go_simp; with_reducible rfl); rotate_left; (simp only [Act.put, sA_, sB_, sC_, i64_w, i32_w]; rfl)
                       refine pu_ ?_ 12 (some 109) skiarealaw52_ClosureHeld.b12 rfl rfl HT_ (by kernel_rfl) (fun _ _ _ h => h) (by rfl) ?_ ?_ ?_ ?_; rotate_left; (intro w'; go_simp; with_reducible rfl); rotate_left; (simp only [Act.put, sA_, sB_, sC_, i64_w, i32_w]; rfl)
                       refine pu_ ?_ 13 (some 110) skiarealaw52_ClosureHeld.b13 rfl rfl HT_ (by kernel_rfl) (fun _ _ _ h => h) (by rfl) ?_ ?_ ?_ ?_; rotate_left; (intro w'; go_simp; with_reducible rfl); rotate_left; (simp only [Act.put, sA_, sB_, sC_, i64_w, i32_w]; rfl)
                       refine pu_ ?_ 14 (some 111) skiarealaw52_ClosureHeld.b14 rfl rfl HT_ (by kernel_rfl) (fun _ _ _ h => h) (by rfl) ?_ ?_ ?_ ?_; rotate_left; (intro w'; go_simp; with_reducible rfl); rotate_left; (simp only [Act.put, sA_, sB_, sC_, i64_w, i32_w]; rfl)
                       refine pu_ ?_ 15 (some 112) skiarealaw52_ClosureHeld.b15 rfl rfl HT_ (by kernel_rfl) (fun _ _ _ h => h) (by rfl) ?_ ?_ ?_ ?_; rotate_left; (intro w'; go_simp; with_reducible rfl); rotate_left; (simp only [Act.put, sA_, sB_, sC_, i64_w, i32_w]; rfl)
                       refine pu_ ?_ 16 (some 113) skiarealaw52_ClosureHeld.b16 rfl rfl HT_ (by kernel_rfl) (fun _ _ _ h => h) (by rfl) ?_ ?_ ?_ ?_; rotate_left; (intro w'; go_simp; with_reducible rfl); rotate_left; (simp only [Act.put, sA_, sB_, sC_, i64_w, i32_w]; rfl)
                       refine pn_ ?_ 17 (some 114) skiarealaw52_ClosureHeld.b17 rfl rfl HT_ (by kernel_rfl) (fun _ _ _ h => h) (by rfl) ?_ ?_; rotate_left; (simp only [Act.put, sA_, sB_, sC_, i64_w, i32_w]; rfl)
                       refine pn_ ?_ 18 (some 115) skiarealaw52_ClosureHeld.b18 rfl rfl HT_ (by kernel_rfl) (fun _ _ _ h => h) (by rfl) ?_ ?_; rotate_left; (simp only [Act.put, sA_, sB_, sC_, i64_w, i32_w]; rfl)
                       refine pn_ ?_ 19 (some 116) skiarealaw52_ClosureHeld.b19 rfl rfl HT_ (by kernel_rfl) (fun _ _ _ h => h) (by rfl) ?_ ?_; rotate_left; (simp only [Act.put, sA_, sB_, sC_, i64_w, i32_w]; rfl)
                       refine pn_ ?_ 20 (some 117) skiarealaw52_ClosureHeld.b60 rfl rfl HT_ (by kernel_rfl) (fun _ _ _ h => h) (by rfl) ?_ ?_; rotate_left; (simp only [Act.put, sA_, sB_, sC_, i64_w, i32_w]; rfl)
                       refine pn_ ?_ 21 (some 118) skiarealaw52_ClosureHeld.b61 rfl rfl HT_ (by kernel_rfl) (fun _ _ _ h => h) (by rfl) ?_ ?_; rotate_left; (simp only [Act.put, sA_, sB_, sC_, i64_w, i32_w]; rfl)
                       refine pn_ ?_ 22 (some 119) skiarealaw52_ClosureHeld.b62 rfl rfl HT_ (by kernel_rfl) (fun _ _ _ h => h) (by rfl) ?_ ?_; rotate_left; (simp only [Act.put, sA_, sB_, sC_, i64_w, i32_w]; rfl)
                       refine pn_ ?_ 23 (some 120) skiarealaw52_ClosureHeld.b23 rfl rfl HT_ (by kernel_rfl) (fun _ _ _ h => h) (by rfl) ?_ ?_; rotate_left; (simp only [Act.put, sA_, sB_, sC_, i64_w, i32_w]; rfl)
                       refine pn_ ?_ 24 (some 121) skiarealaw52_ClosureHeld.b24 rfl rfl HT_ (by kernel_rfl) (fun _ _ _ h => h) (by rfl) ?_ ?_; rotate_left; (simp only [Act.put, sA_, sB_, sC_, i64_w, i32_w]; rfl)
                       refine pn_ ?_ 25 (some 122) skiarealaw52_ClosureHeld.b25 rfl rfl HT_ (by kernel_rfl) (fun _ _ _ h => h) (by rfl) ?_ ?_; rotate_left; (simp only [Act.put, sA_, sB_, sC_, i64_w, i32_w]; rfl)
                       refine pu_ ?_ 26 (some 123) skiarealaw52_ClosureHeld.b26 rfl rfl HT_ (by kernel_rfl) (fun _ _ _ h => h) (by rfl) ?_ ?_ ?_ ?_; rotate_left; (intro w'; go_simp; with_reducible rfl); rotate_left; (simp only [Act.put, sA_, sB_, sC_, i64_w, i32_w]; rfl)
                       refine pu_ ?_ 27 (some 124) skiarealaw52_ClosureHeld.b27 rfl rfl HT_ (by kernel_rfl) (fun _ _ _ h => h) (by rfl) ?_ ?_ ?_ ?_; rotate_left; (intro w'; go_simp; with_reducible rfl); rotate_left; (simp only [Act.put, sA_, sB_, sC_, i64_w, i32_w]; rfl)
                       refine pu_ ?_ 28 (some 125) skiarealaw52_ClosureHeld.b28 rfl rfl HT_ (by kernel_rfl) (fun _ _ _ h => h) (by rfl) ?_ ?_ ?_ ?_; rotate_left; (intro w'; go_simp; with_reducible rfl); rotate_left; (simp only [Act.put, sA_, sB_, sC_, i64_w, i32_w]; rfl)
                       refine pu_ ?_ 29 (some 126) skiarealaw52_ClosureHeld.b29 rfl rfl HT_ (by kernel_rfl) (fun _ _ _ h => h) (by rfl) ?_ ?_ ?_ ?_; rotate_left; (intro w'; go_simp; with_reducible rfl); rotate_left; (simp only [Act.put, sA_, sB_, sC_, i64_w, i32_w]; rfl)
                       refine pu_ ?_ 30 (some 127) skiarealaw52_ClosureHeld.b30 rfl rfl HT_ (by kernel_rfl) (fun _ _ _ h => h) (by rfl) ?_ ?_ ?_ ?_; rotate_left; (intro w'; go_simp; with_reducible rfl); rotate_left; (simp only [Act.put, sA_, sB_, sC_, i64_w, i32_w]; rfl)
                       refine pu_ ?_ 31 (some 128) skiarealaw52_ClosureHeld.b31 rfl rfl HT_ (by kernel_rfl) (fun _ _ _ h => h) (by rfl) ?_ ?_ ?_ ?_; rotate_left; (intro w'; go_simp; with_reducible rfl); rotate_left; (simp only [Act.put, sA_, sB_, sC_, i64_w, i32_w]; rfl)
                       refine pu_ ?_ 32 (some 129) skiarealaw52_ClosureHeld.b32 rfl rfl HT_ (by kernel_rfl) (fun _ _ _ h => h) (by rfl) ?_ ?_ ?_ ?_; rotate_left; (intro w'; go_simp; with_reducible rfl); rotate_left; (simp only [Act.put, sA_, sB_, sC_, i64_w, i32_w]; rfl)
                       refine pu_ ?_ 33 (some 130) skiarealaw52_ClosureHeld.b33 rfl rfl HT_ (by kernel_rfl) (fun _ _ _ h => h) (by rfl) ?_ ?_ ?_ ?_; rotate_left; (intro w'; go_simp; with_reducible rfl); rotate_left; (simp only [Act.put, sA_, sB_, sC_, i64_w, i32_w]; rfl)
                       refine pu_ ?_ 34 (some 131) skiarealaw52_ClosureHeld.b34 rfl rfl HT_ (by kernel_rfl) (fun _ _ _ h => h) (by rfl) ?_ ?_ ?_ ?_; rotate_left; (intro w'; go_simp; with_reducible rfl); rotate_left; (simp only [Act.put, sA_, sB_, sC_, i64_w, i32_w]; rfl)
                       refine pu_ ?_ 36 (some 133) skiarealaw52_ClosureHeld.b35 rfl rfl HT_ (by kernel_rfl) (fun _ _ _ h => h) (by rfl) ?_ ?_ ?_ ?_; rotate_left; (intro w'; go_simp; with_reducible rfl); rotate_left; (simp only [Act.put, sA_, sB_, sC_, i64_w, i32_w]; rfl)
                       refine pu_ ?_ 37 (some 134) skiarealaw52_ClosureHeld.b36 rfl rfl HT_ (by kernel_rfl) (fun _ _ _ h => h) (by rfl) ?_ ?_ ?_ ?_; rotate_left; (intro w'; go_simp; with_reducible rfl); rotate_left; (simp only [Act.put, sA_, sB_, sC_, i64_w, i32_w]; rfl)
                       refine take_ (i := 35) (N := some 132) (v := ?_) (a' := ?_) skiarealaw52_ClosureHeld.b37 rfl rfl (take_ofW HT_.out HW_.out (by kernel_rfl)) (fun _ _ _ h => h) (Or.inl ⟨by rfl, ?_⟩) hHeld ?_ ?_
                       rotate_left
                       ·
                        rintro w' ⟨s0, s1, s2, s3, s4, s5, s6, s7⟩; go_simp
                        with_reducible rfl
                       rotate_left
                       ·
                        simp only [Act.put, List.setIfInBounds_toArray, List.set_cons_zero, List.set_cons_succ, i64_w, i32_w]; rfl
                       refine pu_ ?_ 38 (some 135) skiarealaw52_ClosureHeld.b38 rfl rfl HT_ (by kernel_rfl) (fun _ _ _ h => h) (by rfl) ?_ ?_ ?_ ?_; rotate_left; (intro w'; go_simp; with_reducible rfl); rotate_left; (simp only [Act.put, sA_, sB_, sC_, i64_w, i32_w]; rfl)
                       refine pu_ ?_ 39 (some 136) skiarealaw52_ClosureHeld.b39 rfl rfl HT_ (by kernel_rfl) (fun _ _ _ h => h) (by rfl) ?_ ?_ ?_ ?_; rotate_left; (intro w'; go_simp; with_reducible rfl); rotate_left; (simp only [Act.put, sA_, sB_, sC_, i64_w, i32_w]; rfl)
                       refine pu_ ?_ 40 (some 137) skiarealaw52_ClosureHeld.b40 rfl rfl HT_ (by kernel_rfl) (fun _ _ _ h => h) (by rfl) ?_ ?_ ?_ ?_; rotate_left; (intro w'; go_simp; with_reducible rfl); rotate_left; (simp only [Act.put, sA_, sB_, sC_, i64_w, i32_w]; rfl)
                       refine pu_ ?_ 41 (some 138) skiarealaw52_ClosureHeld.b41 rfl rfl HT_ (by kernel_rfl) (fun _ _ _ h => h) (by rfl) ?_ ?_ ?_ ?_; rotate_left; (intro w'; go_simp; with_reducible rfl); rotate_left; (simp only [Act.put, sA_, sB_, sC_, i64_w, i32_w]; rfl)
                       refine pu_ ?_ 42 (some 139) skiarealaw52_ClosureHeld.b42 rfl rfl HT_ (by kernel_rfl) (fun _ _ _ h => h) (by rfl) ?_ ?_ ?_ ?_; rotate_left; (intro w'; go_simp; with_reducible rfl); rotate_left; (simp only [Act.put, sA_, sB_, sC_, i64_w, i32_w]; rfl)
                       refine one_ (i := 43) (N := some 140) skiarealaw52_ClosureHeld.b43 rfl rfl (one_of HT_.out (by kernel_rfl)) (by decide) (fun K hK => ?_)
                       refine goes_ Try.func10 (by kernel_rfl) rfl #[.slice Ao38 x10_16.length co38] (by rfl) rfl rfl (by (try simp only [List.map_toArray, List.map_cons, List.map_nil]); first | done | rfl | (simp only [List.length_drop, List.length_take]; rfl)) ?_
                       with_reducible refine (closure_Right.calls kj34 _ _ x10_16 t415 _ ?side1 ?side2 A73.out).mono ?_
                       (case side1 => repeat (first | exact (Kd.R_reads' HO_10.out).2.2 | (with_reducible refine Kd.cA_ ?_ _) | (with_reducible refine Kd.cN_ ?_ _) | (with_reducible refine Kd.cD_ ?_))); (case side2 => exact (Kd.R_reads' HO_10.out).2.1); rintro e w79 ⟨rfl, hb⟩; refine ⟨_, rfl, ?_⟩
                       have n0_ := Aside0.mk (Kd.V_below (by (with_reducible repeat (first | apply Kd.V_alloc | apply Kd.V_drewN | apply Kd.V_drew)); exact HO_0.out) hb); have n1_ := Aside0.mk (Kd.R_below (by (with_reducible repeat (first | apply Kd.rA_ | apply Kd.rN_ | apply Kd.rD_)); exact HO_10.out) hb); have n2_ := Aside0.mk (blk_below (g := gb390) (o := .cells #[.int .i64 a2_0, .int .i64 a2_1, .int .i64 a2_2] 30 (0, 0)) (by (with_reducible repeat (first | refine bN_ ?_ _ | refine bD_ ?_ | refine bA_ ?_ _)); exact BK390.out) hb); have n3_ := Aside0.mk (blk_below (g := gb394) (o := .cells #[.int .i64 ((rd_T50 l1 x7_2).f1.f0), .int .i64 ((rd_T50 l1 x7_2).f1.f1), .int .i64 ((rd_T50 l1 x7_2).f1.f2), .int .i64 ((rd_T50 l1 x7_2).f1.f3)] 28 (0, 0)) (by (with_reducible repeat (first | refine bN_ ?_ _ | refine bD_ ?_ | refine bA_ ?_ _)); exact BK394.out) hb); have n4_ := Aside0.mk (below_step (by repeat (first | (with_reducible first | exact HB.out | apply lA_ | apply lN_ | apply lD_ | refine lS_ ?_ GE390.out | refine lS_ ?_ GE394.out) | exact HB.out)) hb); clear HO_0; clear HO_10; clear BK390; clear BK394; clear HB; have HO_0 := n0_; have HO_10 := n1_; have BK390 := n2_; have BK394 := n3_; have HB := n4_; clear n0_ n1_ n2_ n3_ n4_; (try clear hb); (try clear hb2); (try clear hk); (try clear hi); refine hK.out _ _ ⟨(blk_cell BK390.out 0).trans rfl, (blk_cell BK390.out 1).trans rfl, (blk_cell BK390.out 2).trans rfl, ((HB.out.cell (World.block_lt_of_cell? w _ hw414_0)).trans hw414_0), ((HB.out.cell (World.block_lt_of_cell? w _ hw414_1)).trans hw414_1), ((HB.out.cell (World.block_lt_of_cell? w _ hw414_2)).trans hw414_2), ((HB.out.cell (World.block_lt_of_cell? w _ hw414_3)).trans hw414_3), ((HB.out.cell (World.block_lt_of_cell? w _ hw414_4)).trans hw414_4)⟩ (fun hHeld => ?_)
                       clear hK K; refine norm_ (a' := ?_) ?_ ?_
                       rotate_left
                       ·
                        show Act.put _ (some 140) _ = _
                        simp only [Act.put, List.setIfInBounds_toArray, List.set_cons_zero, List.set_cons_succ, i64_w, i32_w]; rfl
                       refine pu_ ?_ 44 (some 141) skiarealaw52_ClosureHeld.b44 rfl rfl HT_ (by kernel_rfl) (fun _ _ _ h => h) (by rfl) ?_ ?_ ?_ ?_; rotate_left; (intro w'; go_simp; with_reducible rfl); rotate_left; (simp only [Act.put, sA_, sB_, sC_, i64_w, i32_w]; rfl)
                       refine pu_ ?_ 45 (some 142) skiarealaw52_ClosureHeld.b45 rfl rfl HT_ (by kernel_rfl) (fun _ _ _ h => h) (by rfl) ?_ ?_ ?_ ?_; rotate_left; (intro w'; go_simp; with_reducible rfl); rotate_left; (simp only [Act.put, sA_, sB_, sC_, i64_w, i32_w]; rfl)
                       refine pu_ ?_ 46 (some 143) skiarealaw52_ClosureHeld.b46 rfl rfl HT_ (by kernel_rfl) (fun _ _ _ h => h) (by rfl) ?_ ?_ ?_ ?_; rotate_left; (intro w'; go_simp; with_reducible rfl); rotate_left; (simp only [Act.put, sA_, sB_, sC_, i64_w, i32_w]; rfl)
                       refine pu_ ?_ 47 (some 144) skiarealaw52_ClosureHeld.b47 rfl rfl HT_ (by kernel_rfl) (fun _ _ _ h => h) (by rfl) ?_ ?_ ?_ ?_; rotate_left; (intro w'; go_simp; with_reducible rfl); rotate_left; (simp only [Act.put, sA_, sB_, sC_, i64_w, i32_w]; rfl)
                       refine pu_ ?_ 48 (some 145) skiarealaw52_ClosureHeld.b48 rfl rfl HT_ (by kernel_rfl) (fun _ _ _ h => h) (by rfl) ?_ ?_ ?_ ?_; rotate_left; (intro w'; go_simp; with_reducible rfl); rotate_left; (simp only [Act.put, sA_, sB_, sC_, i64_w, i32_w]; rfl)
                       refine pu_ ?_ 50 (some 147) skiarealaw52_ClosureHeld.b49 rfl rfl HT_ (by kernel_rfl) (fun _ _ _ h => h) (by rfl) ?_ ?_ ?_ ?_; rotate_left; (intro w'; go_simp; with_reducible rfl); rotate_left; (simp only [Act.put, sA_, sB_, sC_, i64_w, i32_w]; rfl)
                       refine pu_ ?_ 53 (some 150) skiarealaw52_ClosureHeld.b50 rfl rfl HT_ (by kernel_rfl) (fun _ _ _ h => h) (by rfl) ?_ ?_ ?_ ?_; rotate_left; (intro w'; go_simp; with_reducible rfl); rotate_left; (simp only [Act.put, sA_, sB_, sC_, i64_w, i32_w]; rfl)
                       refine pu_ ?_ 56 (some 153) skiarealaw52_ClosureHeld.b51 rfl rfl HT_ (by kernel_rfl) (fun _ _ _ h => h) (by rfl) ?_ ?_ ?_ ?_; rotate_left; (intro w'; go_simp; with_reducible rfl); rotate_left; (simp only [Act.put, sA_, sB_, sC_, i64_w, i32_w]; rfl)
                       refine pu_ ?_ 57 (some 154) skiarealaw52_ClosureHeld.b52 rfl rfl HT_ (by kernel_rfl) (fun _ _ _ h => h) (by rfl) ?_ ?_ ?_ ?_; rotate_left; (intro w'; go_simp; with_reducible rfl); rotate_left; (simp only [Act.put, sA_, sB_, sC_, i64_w, i32_w]; rfl)
                       refine take_ (i := 49) (N := some 146) (v := ?_) (a' := ?_) skiarealaw52_ClosureHeld.b53 rfl rfl (take_ofW HT_.out HW_.out (by kernel_rfl)) (fun _ _ _ h => h) (Or.inl ⟨by rfl, ?_⟩) hHeld ?_ ?_
                       rotate_left
                       ·
                        rintro w' ⟨s0, s1, s2, s3, s4, s5, s6, s7⟩; go_simp
                        with_reducible rfl
                       rotate_left
                       ·
                        simp only [Act.put, List.setIfInBounds_toArray, List.set_cons_zero, List.set_cons_succ, i64_w, i32_w]; rfl
                       refine take_ (i := 51) (N := some 148) (v := ?_) (a' := ?_) skiarealaw52_ClosureHeld.b54 rfl rfl (take_ofW HT_.out HW_.out (by kernel_rfl)) (fun _ _ _ h => h) (Or.inl ⟨by rfl, ?_⟩) hHeld ?_ ?_
                       rotate_left
                       ·
                        rintro w' ⟨s0, s1, s2, s3, s4, s5, s6, s7⟩; go_simp
                        with_reducible rfl
                       rotate_left
                       ·
                        simp only [Act.put, List.setIfInBounds_toArray, List.set_cons_zero, List.set_cons_succ, i64_w, i32_w]; rfl
                       refine take_ (i := 54) (N := some 151) (v := ?_) (a' := ?_) skiarealaw52_ClosureHeld.b55 rfl rfl (take_ofW HT_.out HW_.out (by kernel_rfl)) (fun _ _ _ h => h) (Or.inl ⟨by rfl, ?_⟩) hHeld ?_ ?_
                       rotate_left
                       ·
                        rintro w' ⟨s0, s1, s2, s3, s4, s5, s6, s7⟩; go_simp
                        with_reducible rfl
                       rotate_left
                       ·
                        simp only [Act.put, List.setIfInBounds_toArray, List.set_cons_zero, List.set_cons_succ, i64_w, i32_w]; rfl
                       refine one_ (i := 52) (N := some 149) skiarealaw52_ClosureHeld.b56 rfl rfl (one_of HT_.out (by kernel_rfl)) (by decide) (fun K hK => ?_)
                       refine goes_ Try.func20 (by kernel_rfl) rfl #[.slice Ao38 x10_16.length co38, .int .i64 a2_0, .int .i64 a2_1] (by rfl) rfl rfl (by (try simp only [List.map_toArray, List.map_cons, List.map_nil]); first | done | rfl | (simp only [List.length_drop, List.length_take]; rfl)) ?_
                       with_reducible refine (closure_Of.calls kj34 _ _ x10_16 a2_0 a2_1 t416 _ ?side1 ?side2 A75.out).mono ?_
                       (case side1 => repeat (first | exact (Kd.R_reads' HO_10.out).2.2 | (with_reducible refine Kd.cA_ ?_ _) | (with_reducible refine Kd.cN_ ?_ _) | (with_reducible refine Kd.cD_ ?_))); (case side2 => exact (Kd.R_reads' HO_10.out).2.1); rintro e w80 ⟨v417, rfl, ho0, hb⟩; refine ⟨_, rfl, ?_⟩
                       have n0_ := Aside0.mk (Kd.V_elder' (by (with_reducible repeat (first | apply Kd.V_alloc | apply Kd.V_drewN | apply Kd.V_drew)); exact HO_0.out) (Kd.R_base ho0) hb); have n1_ := Aside0.mk (Kd.R_below (by (with_reducible repeat (first | apply Kd.rA_ | apply Kd.rN_ | apply Kd.rD_)); exact HO_10.out) hb); have n2_ := Aside0.mk (Kd.R_lower (Kd.R_newM (M := fun k_ => (w.heap.size ≤ k_)) ho0 (below_size (by repeat (first | (with_reducible first | exact HB.out | apply lA_ | apply lN_ | apply lD_ | refine lS_ ?_ GE390.out | refine lS_ ?_ GE394.out) | exact HB.out))) (fun k_ h_ => h_)) (below_size (by repeat (first | (with_reducible first | exact HB.out | apply lA_ | apply lN_ | apply lD_ | refine lS_ ?_ GE390.out | refine lS_ ?_ GE394.out) | exact HB.out)))); have n3_ := Aside0.mk (blk_below (g := gb390) (o := .cells #[.int .i64 a2_0, .int .i64 a2_1, .int .i64 a2_2] 30 (0, 0)) (by (with_reducible repeat (first | refine bN_ ?_ _ | refine bD_ ?_ | refine bA_ ?_ _)); exact BK390.out) hb); have n4_ := Aside0.mk (blk_below (g := gb394) (o := .cells #[.int .i64 ((rd_T50 l1 x7_2).f1.f0), .int .i64 ((rd_T50 l1 x7_2).f1.f1), .int .i64 ((rd_T50 l1 x7_2).f1.f2), .int .i64 ((rd_T50 l1 x7_2).f1.f3)] 28 (0, 0)) (by (with_reducible repeat (first | refine bN_ ?_ _ | refine bD_ ?_ | refine bA_ ?_ _)); exact BK394.out) hb); have n5_ := Aside0.mk (below_step (by repeat (first | (with_reducible first | exact HB.out | apply lA_ | apply lN_ | apply lD_ | refine lS_ ?_ GE390.out | refine lS_ ?_ GE394.out) | exact HB.out)) hb); clear HO_0; clear HO_10; clear BK390; clear BK394; clear HB; have HO_0 := n0_; have HO_10 := n1_; have HO418 := n2_; have BK390 := n3_; have BK394 := n4_; have HB := n5_; clear n0_ n1_ n2_ n3_ n4_ n5_; (try clear hb); (try clear hb2); (try clear hk); (try clear hi); (try clear ho0); obtain ⟨Ao81, co81, eo81⟩ := Kd.R_slice HO418.out; (first | subst eo81 | (injection eo81 with f1_ f2_ f3_; have f4_ := f1_.symm; have f5_ := f3_.symm; clear f1_ f2_ f3_; subst f4_; subst f5_))
                       refine hK.out _ _ ⟨(blk_cell BK390.out 0).trans rfl, (blk_cell BK390.out 1).trans rfl, (blk_cell BK390.out 2).trans rfl, ((HB.out.cell (World.block_lt_of_cell? w _ hw414_0)).trans hw414_0), ((HB.out.cell (World.block_lt_of_cell? w _ hw414_1)).trans hw414_1), ((HB.out.cell (World.block_lt_of_cell? w _ hw414_2)).trans hw414_2), ((HB.out.cell (World.block_lt_of_cell? w _ hw414_3)).trans hw414_3), ((HB.out.cell (World.block_lt_of_cell? w _ hw414_4)).trans hw414_4)⟩ (fun hHeld => ?_)
                       clear hK K; refine norm_ (a' := ?_) ?_ ?_
                       rotate_left
                       ·
                        show Act.put _ (some 149) _ = _
                        simp only [Act.put, List.setIfInBounds_toArray, List.set_cons_zero, List.set_cons_succ, i64_w, i32_w]; rfl
                       refine one_ (i := 55) (N := some 152) skiarealaw52_ClosureHeld.b57 rfl rfl (one_of HT_.out (by kernel_rfl)) (by decide) (fun K hK => ?_)
                       refine goes_ Try.func27 (by kernel_rfl) rfl #[.slice Ao81 t416.length co81, .int .i64 a2_2] (by rfl) rfl rfl (by (try simp only [List.map_toArray, List.map_cons, List.map_nil]); first | done | rfl | (simp only [List.length_drop, List.length_take]; rfl)) ?_
                       with_reducible refine (skiarealaw52_has.calls kj34 _ _ t416 a2_2 t419 _ ?side1 ?side2 A76.out).mono ?_
                       (case side1 => repeat (first | exact (Kd.R_reads' HO418.out).2.2 | (with_reducible refine Kd.cA_ ?_ _) | (with_reducible refine Kd.cN_ ?_ _) | (with_reducible refine Kd.cD_ ?_))); (case side2 => exact (Kd.R_reads' HO418.out).2.1); rintro e w' ⟨rfl, ⟨nd, rfl⟩⟩; refine ⟨_, rfl, ?_⟩
                       refine hK.out _ _ ⟨(blk_cell BK390.out 0).trans rfl, (blk_cell BK390.out 1).trans rfl, (blk_cell BK390.out 2).trans rfl, ((HB.out.cell (World.block_lt_of_cell? w _ hw414_0)).trans hw414_0), ((HB.out.cell (World.block_lt_of_cell? w _ hw414_1)).trans hw414_1), ((HB.out.cell (World.block_lt_of_cell? w _ hw414_2)).trans hw414_2), ((HB.out.cell (World.block_lt_of_cell? w _ hw414_3)).trans hw414_3), ((HB.out.cell (World.block_lt_of_cell? w _ hw414_4)).trans hw414_4)⟩ (fun hHeld => ?_)
                       clear hK K; refine norm_ (a' := ?_) ?_ ?_
                       rotate_left
                       ·
                        show Act.put _ (some 152) _ = _
                        simp only [Act.put, List.setIfInBounds_toArray, List.set_cons_zero, List.set_cons_succ, i64_w, i32_w]; rfl
                       refine pu_ ?_ 58 (some 155) skiarealaw52_ClosureHeld.b58 rfl rfl HT_ (by kernel_rfl) (fun _ _ _ h => h) (by rfl) ?_ ?_ ?_ ?_; rotate_left; (intro w'; go_simp; with_reducible rfl); rotate_left; (simp only [Act.put, sA_, sB_, sC_, i64_w, i32_w]; rfl)
                       refine pu_ ?_ 59 (some 156) skiarealaw52_ClosureHeld.b59 rfl rfl HT_ (by kernel_rfl) (fun _ _ _ h => h) (by rfl) ?_ ?_ ?_ ?_; rotate_left; (intro w'; go_simp; with_reducible rfl); rotate_left; (simp only [Act.put, sA_, sB_, sC_, i64_w, i32_w]; rfl)
                       refine done_ (done_of HT_.out (by kernel_rfl)) ?_
                       try go_wp2
                       go_roundg kj34
                       case measure => have := HJ5.out; have := HK2.out; have := HJ16.out; have := HJ34.out; omega
                       case rel => exact ⟨(x10_16), (wrap64 (x7_2 + 1)), (by first | rfl | (simp; done) | (simp [*]; done)), H', ⟨by have := HJ5.out; have := HK2.out; have := HJ16.out; have := HJ34.out; omega⟩, ⟨Kd.R_V (by (with_reducible repeat (first | apply Kd.rA_ | apply Kd.rN_ | apply Kd.rD_)); exact Kd.R_mono (Kd.R_types HO_10.out BK390.out (by decide)) (fun k_ hk => ⟨.inr hk.1.1, hk.2⟩))⟩, ⟨by (with_reducible repeat (first | refine bN_ ?_ _ | refine bD_ ?_ | refine bA_ ?_ _)); exact BK390.out⟩, ⟨by repeat (first | (with_reducible first | exact HB.out | apply lA_ | apply lN_ | apply lD_ | refine lS_ ?_ GE390.out | refine lS_ ?_ GE394.out) | exact HB.out)⟩⟩
                    ·
                     rw [if_neg c74] at H
                     have c74b0 : (t415 == 0) = false := beq_eq_false_iff_ne.mpr c74; have c74b1 : (t415 != 0) = true := bne_iff_ne.mpr c74
                     exact absurd H (by simp)
                  ·
                   rw [if_neg c71] at H
                   exact absurd H (by simp)
                 ·
                  rw [if_neg c70] at H
                  exact absurd H (by simp)
               ·
                rw [if_neg c51] at H
                have c51b0 : decide (0 ≤ t395) = false := decide_eq_false c51; clear c51; by_cases c82 : 0 ≤ x7_2
                ·
                 rw [if_pos c82] at H
                 have c82b0 : decide (0 ≤ x7_2) = true := decide_eq_true c82; clear c82; by_cases c83 : x7_2 < (l1.length : Int)
                 ·
                  rw [if_pos c83] at H
                  have c83b0 : decide (x7_2 < (l1.length : Int)) = true := decide_eq_true c83; clear c83; by_cases c84 : (((rd_T50 l1 x7_2).f0) != (decide (t405 < 0))) = true
                  ·
                   rw [if_pos c84] at H
                   have c84b0 : (((rd_T50 l1 x7_2).f0) != (decide (t405 < 0))) = true := c84; (try (have c84b1 : decide (((rd_T50 l1 x7_2).f0) = (decide (t405 < 0))) = false := by simpa using c84))
                   (try (have c84b2 : (((rd_T50 l1 x7_2).f0) == (decide (t405 < 0))) = false := by simpa using c84))
                   (try (have c84b3 : ¬ (((rd_T50 l1 x7_2).f0) = (decide (t405 < 0))) := by simpa using c84))
                   clear c84
                   exact absurd H (by simp)
                  ·
                   rw [if_neg c84] at H
                   have c84b0 : (((rd_T50 l1 x7_2).f0) != (decide (t405 < 0))) = false := by simpa using c84
                   (try (have c84b1 : decide (((rd_T50 l1 x7_2).f0) = (decide (t405 < 0))) = true := by simpa using c84))
                   (try (have c84b2 : (((rd_T50 l1 x7_2).f0) == (decide (t405 < 0))) = true := by simpa using c84))
                   clear c84; replace H := Option.bind_eq_some_iff.mp H; obtain ⟨t421, A850, H⟩ := H; replace H : (if t421 = 0 then ((closure_Of.f kj34 x10_16 a2_0 a2_1).bind fun t422 => ((skiarealaw52_has.f kj34 t422 a2_2).bind fun t425 => (if (t425 != (decide (t405 ≥ 0))) = true then (none) else (skiarealaw52_ClosureHeld.l0 kj34 x10_16 l1 (wrap64 (x7_2 + 1)) a2_0 a2_1 a2_2)))) else (none)) = some r := H; have A85 := Aside0.mk A850; clear A850; by_cases c86 : t421 = 0
                   ·
                    rw [if_pos c86] at H
                    have c86b0 : (t421 == 0) = true := beq_iff_eq.mpr c86; have c86b1 : (t421 != 0) = false := bne_eq_false_iff_eq.mpr c86; clear c86; replace H := Option.bind_eq_some_iff.mp H; obtain ⟨t422, A870, H⟩ := H; replace H : ((skiarealaw52_has.f kj34 t422 a2_2).bind fun t425 => (if (t425 != (decide (t405 ≥ 0))) = true then (none) else (skiarealaw52_ClosureHeld.l0 kj34 x10_16 l1 (wrap64 (x7_2 + 1)) a2_0 a2_1 a2_2))) = some r := H; have A87 := Aside0.mk A870; clear A870; replace H := Option.bind_eq_some_iff.mp H; obtain ⟨t425, A880, H⟩ := H; replace H : (if (t425 != (decide (t405 ≥ 0))) = true then (none) else (skiarealaw52_ClosureHeld.l0 kj34 x10_16 l1 (wrap64 (x7_2 + 1)) a2_0 a2_1 a2_2)) = some r := H; have A88 := Aside0.mk A880; clear A880; by_cases c89 : (t425 != (decide (t405 ≥ 0))) = true
                    ·
                     rw [if_pos c89] at H
                     exact absurd H (by simp)
                    ·
                     rw [if_neg c89] at H
                     have c89b0 : (t425 != (decide (t405 ≥ 0))) = false := by simpa using c89
                     (first | (have c89z : t425 = true := (bne_eq_false_iff_eq.1 c89b0).trans (decide_eq_true (of_decide_eq_true (show decide (0 ≤ t405) = true by assumption)))) | (have c89z : t425 = false := (bne_eq_false_iff_eq.1 c89b0).trans (decide_eq_false (of_decide_eq_false (show decide (0 ≤ t405) = false by assumption)))) | skip)
                     (try (have c89b1 : decide (t425 = (decide (t405 ≥ 0))) = true := by simpa using c89))
                     (try (have c89b2 : (t425 == (decide (t405 ≥ 0))) = true := by simpa using c89))
                     clear c89; have H' := Aside0.mk H; clear H; try go_wp2
                     have n0_ := Aside0.mk (Kd.V_drew HO_0.out); have n1_ := Aside0.mk (Kd.rD_ HO_10.out); have n2_ := Aside0.mk (bD_ BK390.out); have n3_ := Aside0.mk (bD_ BK394.out); have n4_ := Aside0.mk (lD_ HB.out); clear HO_0; clear HO_10; clear BK390; clear BK394; clear HB; have HO_0 := n0_; have HO_10 := n1_; have BK390 := n2_; have BK394 := n3_; have HB := n4_; clear n0_ n1_ n2_ n3_ n4_; have p420 : 0 ≤ (x7_2 : Int) := of_decide_eq_true (by first | (with_reducible assumption) | assumption); have q420 : x7_2 < (l1.length : Int) := of_decide_eq_true (by first | (with_reducible assumption) | assumption); obtain ⟨ad420, e420, hx420_0, hx420_1, hx420_2, hx420_3, hx420_4⟩ := at_T50 HR1.out x7_2 p420 q420; have hw420_4 := hx420_4; have hw420_3 := hx420_3; have hw420_2 := hx420_2; have hw420_1 := hx420_1; have hw420_0 := hx420_0; obtain rfl : ad393 = ad420 := (by injection e420); replace hx420_0 := (HB.out.cell (World.block_lt_of_cell? w _ hx420_0)).trans hx420_0; replace hx420_1 := (HB.out.cell (World.block_lt_of_cell? w _ hx420_1)).trans hx420_1; replace hx420_2 := (HB.out.cell (World.block_lt_of_cell? w _ hx420_2)).trans hx420_2; replace hx420_3 := (HB.out.cell (World.block_lt_of_cell? w _ hx420_3)).trans hx420_3; replace hx420_4 := (HB.out.cell (World.block_lt_of_cell? w _ hx420_4)).trans hx420_4; replace p420 := eq_true p420; replace q420 := eq_true q420
                     as_aux_lemma =>
                      refine start_ (n := 60) (S := fun w' => w'.cell? ⟨gb390, 0, none⟩ = some (.int .i64 a2_0) ∧ w'.cell? ⟨gb390, 1, none⟩ = some (.int .i64 a2_1) ∧ w'.cell? ⟨gb390, 2, none⟩ = some (.int .i64 a2_2) ∧ w'.cell? (ad393.add ((x7_2).toNat * 5)) = some (.bool ((rd_T50 l1 x7_2).f0)) ∧ w'.cell? ⟨(ad393.add ((x7_2).toNat * 5)).block, (ad393.add ((x7_2).toNat * 5)).off + 1, none⟩ = some (.int .i64 ((rd_T50 l1 x7_2).f1.f0)) ∧ w'.cell? ⟨(ad393.add ((x7_2).toNat * 5)).block, (ad393.add ((x7_2).toNat * 5)).off + 2, none⟩ = some (.int .i64 ((rd_T50 l1 x7_2).f1.f1)) ∧ w'.cell? ⟨(ad393.add ((x7_2).toNat * 5)).block, (ad393.add ((x7_2).toNat * 5)).off + 3, none⟩ = some (.int .i64 ((rd_T50 l1 x7_2).f1.f2)) ∧ w'.cell? ⟨(ad393.add ((x7_2).toNat * 5)).block, (ad393.add ((x7_2).toNat * 5)).off + 4, none⟩ = some (.int .i64 ((rd_T50 l1 x7_2).f1.f3))) (ds := []) #[false, false, false, false, false, false, false, false, false, false, false, false, false, false, false, false, false, false, false, false, false, false, false, false, false, false, false, false, false, false, false, false, false, false, false, false, false, false, false, false, false, false, false, false, false, false, false, false, false, false, false, false, false, false, false, false, false, false, false, false] (by kernel_rfl) rfl rfl ⟨(blk_cell BK390.out 0).trans rfl, (blk_cell BK390.out 1).trans rfl, (blk_cell BK390.out 2).trans rfl, ((HB.out.cell (World.block_lt_of_cell? w _ hw420_0)).trans hw420_0), ((HB.out.cell (World.block_lt_of_cell? w _ hw420_1)).trans hw420_1), ((HB.out.cell (World.block_lt_of_cell? w _ hw420_2)).trans hw420_2), ((HB.out.cell (World.block_lt_of_cell? w _ hw420_3)).trans hw420_3), ((HB.out.cell (World.block_lt_of_cell? w _ hw420_4)).trans hw420_4)⟩ (fun hHeld => ?_); refine with_tabW skiarealaw52_ClosureHeld.tab20 skiarealaw52_ClosureHeld.bits20 (fun HT_ HW_ => ?_)
                      generalize wc.drew = w90 at HO_0 HO_10 BK390 BK394 HB hx420_0 hx420_1 hx420_2 hx420_3 hx420_4 hHeld ⊢
                      refine pu_ ?_ 0 (some 97) skiarealaw52_ClosureHeld.b0 rfl rfl HT_ (by kernel_rfl) (fun _ _ _ h => h) (by rfl) ?_ ?_ ?_ ?_; rotate_left; (intro w'; go_simp; with_reducible rfl); rotate_left; (simp only [Act.put, sA_, sB_, sC_, i64_w, i32_w]; rfl)
                      refine pu_ ?_ 1 (some 98) skiarealaw52_ClosureHeld.b1 rfl rfl HT_ (by kernel_rfl) (fun _ _ _ h => h) (by rfl) ?_ ?_ ?_ ?_; rotate_left; (intro w'; go_simp; with_reducible rfl); rotate_left; (simp only [Act.put, sA_, sB_, sC_, i64_w, i32_w]; rfl)
                      refine pu_ ?_ 2 (some 99) skiarealaw52_ClosureHeld.b2 rfl rfl HT_ (by kernel_rfl) (fun _ _ _ h => h) (by rfl) ?_ ?_ ?_ ?_; rotate_left; (intro w'; go_simp; with_reducible rfl); rotate_left; (simp only [Act.put, sA_, sB_, sC_, i64_w, i32_w]; rfl)
                      refine pn_ ?_ 3 (some 100) skiarealaw52_ClosureHeld.b3 rfl rfl HT_ (by kernel_rfl) (fun _ _ _ h => h) (by rfl) ?_ ?_; rotate_left; (simp only [Act.put, sA_, sB_, sC_, i64_w, i32_w]; rfl)
                      refine pn_ ?_ 4 (some 101) skiarealaw52_ClosureHeld.b4 rfl rfl HT_ (by kernel_rfl) (fun _ _ _ h => h) (by rfl) ?_ ?_; rotate_left; (simp only [Act.put, sA_, sB_, sC_, i64_w, i32_w]; rfl)
                      refine pn_ ?_ 5 (some 102) skiarealaw52_ClosureHeld.b5 rfl rfl HT_ (by kernel_rfl) (fun _ _ _ h => h) (by rfl) ?_ ?_; rotate_left; (simp only [Act.put, sA_, sB_, sC_, i64_w, i32_w]; rfl)
                      refine pn_ ?_ 6 (some 103) skiarealaw52_ClosureHeld.b6 rfl rfl HT_ (by kernel_rfl) (fun _ _ _ h => h) (by rfl) ?_ ?_; rotate_left; (simp only [Act.put, sA_, sB_, sC_, i64_w, i32_w]; rfl)
                      refine pn_ ?_ 7 (some 104) skiarealaw52_ClosureHeld.b7 rfl rfl HT_ (by kernel_rfl) (fun _ _ _ h => h) (by rfl) ?_ ?_; rotate_left; (simp only [Act.put, sA_, sB_, sC_, i64_w, i32_w]; rfl)
                      refine pu_ ?_ 8 (some 105) skiarealaw52_ClosureHeld.b8 rfl rfl HT_ (by kernel_rfl) (fun _ _ _ h => h) (by rfl) ?_ ?_ ?_ ?_; rotate_left; (intro w'; go_simp; with_reducible rfl); rotate_left; (simp only [Act.put, sA_, sB_, sC_, i64_w, i32_w]; rfl)
                      refine pu_ ?_ 9 (some 106) skiarealaw52_ClosureHeld.b9 rfl rfl HT_ (by kernel_rfl) (fun _ _ _ h => h) (by rfl) ?_ ?_ ?_ ?_; rotate_left; (intro w'; go_simp; with_reducible rfl); rotate_left; (simp only [Act.put, sA_, sB_, sC_, i64_w, i32_w]; rfl)
                      refine pu_ ?_ 10 (some 107) skiarealaw52_ClosureHeld.b10 rfl rfl HT_ (by kernel_rfl) (fun _ _ _ h => h) (by rfl) ?_ ?_ ?_ ?_; rotate_left; (intro w'; go_simp; with_reducible rfl); rotate_left; (simp only [Act.put, sA_, sB_, sC_, i64_w, i32_w]; rfl)
                      refine pu_ ?_ 11 (some 108) skiarealaw52_ClosureHeld.b11 rfl rfl HT_ (by kernel_rfl) (fun _ _ _ h => h) (by rfl) ?_ ?_ ?_ ?_; rotate_left; (intro w'; go_simp; with_reducible rfl); rotate_left; (simp only [Act.put, sA_, sB_, sC_, i64_w, i32_w]; rfl)
                      refine pu_ ?_ 12 (some 109) skiarealaw52_ClosureHeld.b12 rfl rfl HT_ (by kernel_rfl) (fun _ _ _ h => h) (by rfl) ?_ ?_ ?_ ?_; rotate_left; (intro w'; go_simp; with_reducible rfl); rotate_left; (simp only [Act.put, sA_, sB_, sC_, i64_w, i32_w]; rfl)
                      refine pn_ ?_ 13 (some 110) skiarealaw52_ClosureHeld.b13 rfl rfl HT_ (by kernel_rfl) (fun _ _ _ h => h) (by rfl) ?_ ?_; rotate_left; (simp only [Act.put, sA_, sB_, sC_, i64_w, i32_w]; rfl)
                      refine pn_ ?_ 14 (some 111) skiarealaw52_ClosureHeld.b14 rfl rfl HT_ (by kernel_rfl) (fun _ _ _ h => h) (by rfl) ?_ ?_; rotate_left; (simp only [Act.put, sA_, sB_, sC_, i64_w, i32_w]; rfl)
                      refine pu_ ?_ 15 (some 112) skiarealaw52_ClosureHeld.b15 rfl rfl HT_ (by kernel_rfl) (fun _ _ _ h => h) (by rfl) ?_ ?_ ?_ ?_; rotate_left; (intro w'; go_simp; with_reducible rfl); rotate_left; (simp only [Act.put, sA_, sB_, sC_, i64_w, i32_w]; rfl)
                      refine pu_ ?_ 16 (some 113) skiarealaw52_ClosureHeld.b16 rfl rfl HT_ (by kernel_rfl) (fun _ _ _ h => h) (by rfl) ?_ ?_ ?_ ?_; rotate_left; (intro w'; go_simp; with_reducible rfl); rotate_left; (simp only [Act.put, sA_, sB_, sC_, i64_w, i32_w]; rfl)
                      refine pn_ ?_ 17 (some 114) skiarealaw52_ClosureHeld.b17 rfl rfl HT_ (by kernel_rfl) (fun _ _ _ h => h) (by rfl) ?_ ?_; rotate_left; (simp only [Act.put, sA_, sB_, sC_, i64_w, i32_w]; rfl)
                      refine pn_ ?_ 18 (some 115) skiarealaw52_ClosureHeld.b18 rfl rfl HT_ (by kernel_rfl) (fun _ _ _ h => h) (by rfl) ?_ ?_; rotate_left; (simp only [Act.put, sA_, sB_, sC_, i64_w, i32_w]; rfl)
                      refine pn_ ?_ 19 (some 116) skiarealaw52_ClosureHeld.b19 rfl rfl HT_ (by kernel_rfl) (fun _ _ _ h => h) (by rfl) ?_ ?_; rotate_left; (simp only [Act.put, sA_, sB_, sC_, i64_w, i32_w]; rfl)
                      refine pn_ ?_ 20 (some 117) skiarealaw52_ClosureHeld.b60 rfl rfl HT_ (by kernel_rfl) (fun _ _ _ h => h) (by rfl) ?_ ?_; rotate_left; (simp only [Act.put, sA_, sB_, sC_, i64_w, i32_w]; rfl)
                      refine pn_ ?_ 21 (some 118) skiarealaw52_ClosureHeld.b61 rfl rfl HT_ (by kernel_rfl) (fun _ _ _ h => h) (by rfl) ?_ ?_; rotate_left; (simp only [Act.put, sA_, sB_, sC_, i64_w, i32_w]; rfl)
                      refine pn_ ?_ 22 (some 119) skiarealaw52_ClosureHeld.b62 rfl rfl HT_ (by kernel_rfl) (fun _ _ _ h => h) (by rfl) ?_ ?_; rotate_left; (simp only [Act.put, sA_, sB_, sC_, i64_w, i32_w]; rfl)
                      refine pn_ ?_ 23 (some 120) skiarealaw52_ClosureHeld.b23 rfl rfl HT_ (by kernel_rfl) (fun _ _ _ h => h) (by rfl) ?_ ?_; rotate_left; (simp only [Act.put, sA_, sB_, sC_, i64_w, i32_w]; rfl)
                      refine pn_ ?_ 24 (some 121) skiarealaw52_ClosureHeld.b24 rfl rfl HT_ (by kernel_rfl) (fun _ _ _ h => h) (by rfl) ?_ ?_; rotate_left; (simp only [Act.put, sA_, sB_, sC_, i64_w, i32_w]; rfl)
                      refine pn_ ?_ 25 (some 122) skiarealaw52_ClosureHeld.b25 rfl rfl HT_ (by kernel_rfl) (fun _ _ _ h => h) (by rfl) ?_ ?_; rotate_left; (simp only [Act.put, sA_, sB_, sC_, i64_w, i32_w]; rfl)
                      refine pu_ ?_ 26 (some 123) skiarealaw52_ClosureHeld.b26 rfl rfl HT_ (by kernel_rfl) (fun _ _ _ h => h) (by rfl) ?_ ?_ ?_ ?_; rotate_left; (intro w'; go_simp; with_reducible rfl); rotate_left; (simp only [Act.put, sA_, sB_, sC_, i64_w, i32_w]; rfl)
                      refine pu_ ?_ 27 (some 124) skiarealaw52_ClosureHeld.b27 rfl rfl HT_ (by kernel_rfl) (fun _ _ _ h => h) (by rfl) ?_ ?_ ?_ ?_; rotate_left; (intro w'; go_simp; with_reducible rfl); rotate_left; (simp only [Act.put, sA_, sB_, sC_, i64_w, i32_w]; rfl)
                      refine pu_ ?_ 28 (some 125) skiarealaw52_ClosureHeld.b28 rfl rfl HT_ (by kernel_rfl) (fun _ _ _ h => h) (by rfl) ?_ ?_ ?_ ?_; rotate_left; (intro w'; go_simp; with_reducible rfl); rotate_left; (simp only [Act.put, sA_, sB_, sC_, i64_w, i32_w]; rfl)
                      refine pu_ ?_ 29 (some 126) skiarealaw52_ClosureHeld.b29 rfl rfl HT_ (by kernel_rfl) (fun _ _ _ h => h) (by rfl) ?_ ?_ ?_ ?_; rotate_left; (intro w'; go_simp; with_reducible rfl); rotate_left; (simp only [Act.put, sA_, sB_, sC_, i64_w, i32_w]; rfl)
                      refine pu_ ?_ 30 (some 127) skiarealaw52_ClosureHeld.b30 rfl rfl HT_ (by kernel_rfl) (fun _ _ _ h => h) (by rfl) ?_ ?_ ?_ ?_; rotate_left; (intro w'; go_simp; with_reducible rfl); rotate_left; (simp only [Act.put, sA_, sB_, sC_, i64_w, i32_w]; rfl)
                      refine pu_ ?_ 31 (some 128) skiarealaw52_ClosureHeld.b31 rfl rfl HT_ (by kernel_rfl) (fun _ _ _ h => h) (by rfl) ?_ ?_ ?_ ?_; rotate_left; (intro w'; go_simp; with_reducible rfl); rotate_left; (simp only [Act.put, sA_, sB_, sC_, i64_w, i32_w]; rfl)
                      refine pu_ ?_ 32 (some 129) skiarealaw52_ClosureHeld.b32 rfl rfl HT_ (by kernel_rfl) (fun _ _ _ h => h) (by rfl) ?_ ?_ ?_ ?_; rotate_left; (intro w'; go_simp; with_reducible rfl); rotate_left; (simp only [Act.put, sA_, sB_, sC_, i64_w, i32_w]; rfl)
                      refine pu_ ?_ 33 (some 130) skiarealaw52_ClosureHeld.b33 rfl rfl HT_ (by kernel_rfl) (fun _ _ _ h => h) (by rfl) ?_ ?_ ?_ ?_; rotate_left; (intro w'; go_simp; with_reducible rfl); rotate_left; (simp only [Act.put, sA_, sB_, sC_, i64_w, i32_w]; rfl)
                      refine pu_ ?_ 34 (some 131) skiarealaw52_ClosureHeld.b34 rfl rfl HT_ (by kernel_rfl) (fun _ _ _ h => h) (by rfl) ?_ ?_ ?_ ?_; rotate_left; (intro w'; go_simp; with_reducible rfl); rotate_left; (simp only [Act.put, sA_, sB_, sC_, i64_w, i32_w]; rfl)
                      refine pu_ ?_ 36 (some 133) skiarealaw52_ClosureHeld.b35 rfl rfl HT_ (by kernel_rfl) (fun _ _ _ h => h) (by rfl) ?_ ?_ ?_ ?_; rotate_left; (intro w'; go_simp; with_reducible rfl); rotate_left; (simp only [Act.put, sA_, sB_, sC_, i64_w, i32_w]; rfl)
                      refine pu_ ?_ 37 (some 134) skiarealaw52_ClosureHeld.b36 rfl rfl HT_ (by kernel_rfl) (fun _ _ _ h => h) (by rfl) ?_ ?_ ?_ ?_; rotate_left; (intro w'; go_simp; with_reducible rfl); rotate_left; (simp only [Act.put, sA_, sB_, sC_, i64_w, i32_w]; rfl)
                      refine take_ (i := 35) (N := some 132) (v := ?_) (a' := ?_) skiarealaw52_ClosureHeld.b37 rfl rfl (take_ofW HT_.out HW_.out (by kernel_rfl)) (fun _ _ _ h => h) (Or.inl ⟨by rfl, ?_⟩) hHeld ?_ ?_
                      rotate_left
                      ·
                       rintro w' ⟨s0, s1, s2, s3, s4, s5, s6, s7⟩; go_simp
                       with_reducible rfl
                      rotate_left
                      ·
                       simp only [Act.put, List.setIfInBounds_toArray, List.set_cons_zero, List.set_cons_succ, i64_w, i32_w]; rfl
                      refine pu_ ?_ 38 (some 135) skiarealaw52_ClosureHeld.b38 rfl rfl HT_ (by kernel_rfl) (fun _ _ _ h => h) (by rfl) ?_ ?_ ?_ ?_; rotate_left; (intro w'; go_simp; with_reducible rfl); rotate_left; (simp only [Act.put, sA_, sB_, sC_, i64_w, i32_w]; rfl)
                      refine pu_ ?_ 39 (some 136) skiarealaw52_ClosureHeld.b39 rfl rfl HT_ (by kernel_rfl) (fun _ _ _ h => h) (by rfl) ?_ ?_ ?_ ?_; rotate_left; (intro w'; go_simp; with_reducible rfl); rotate_left; (simp only [Act.put, sA_, sB_, sC_, i64_w, i32_w]; rfl)
                      refine pu_ ?_ 40 (some 137) skiarealaw52_ClosureHeld.b40 rfl rfl HT_ (by kernel_rfl) (fun _ _ _ h => h) (by rfl) ?_ ?_ ?_ ?_; rotate_left; (intro w'; go_simp; with_reducible rfl); rotate_left; (simp only [Act.put, sA_, sB_, sC_, i64_w, i32_w]; rfl)
                      refine pu_ ?_ 41 (some 138) skiarealaw52_ClosureHeld.b41 rfl rfl HT_ (by kernel_rfl) (fun _ _ _ h => h) (by rfl) ?_ ?_ ?_ ?_; rotate_left; (intro w'; go_simp; with_reducible rfl); rotate_left; (simp only [Act.put, sA_, sB_, sC_, i64_w, i32_w]; rfl)
                      refine pu_ ?_ 42 (some 139) skiarealaw52_ClosureHeld.b42 rfl rfl HT_ (by kernel_rfl) (fun _ _ _ h => h) (by rfl) ?_ ?_ ?_ ?_; rotate_left; (intro w'; go_simp; with_reducible rfl); rotate_left; (simp only [Act.put, sA_, sB_, sC_, i64_w, i32_w]; rfl)
                      refine one_ (i := 43) (N := some 140) skiarealaw52_ClosureHeld.b43 rfl rfl (one_of HT_.out (by kernel_rfl)) (by decide) (fun K hK => ?_)
                      refine goes_ Try.func10 (by kernel_rfl) rfl #[.slice Ao38 x10_16.length co38] (by rfl) rfl rfl (by (try simp only [List.map_toArray, List.map_cons, List.map_nil]); first | done | rfl | (simp only [List.length_drop, List.length_take]; rfl)) ?_
                      with_reducible refine (closure_Right.calls kj34 _ _ x10_16 t421 _ ?side1 ?side2 A85.out).mono ?_
                      (case side1 => repeat (first | exact (Kd.R_reads' HO_10.out).2.2 | (with_reducible refine Kd.cA_ ?_ _) | (with_reducible refine Kd.cN_ ?_ _) | (with_reducible refine Kd.cD_ ?_))); (case side2 => exact (Kd.R_reads' HO_10.out).2.1); rintro e w91 ⟨rfl, hb⟩; refine ⟨_, rfl, ?_⟩
                      have n0_ := Aside0.mk (Kd.V_below (by (with_reducible repeat (first | apply Kd.V_alloc | apply Kd.V_drewN | apply Kd.V_drew)); exact HO_0.out) hb); have n1_ := Aside0.mk (Kd.R_below (by (with_reducible repeat (first | apply Kd.rA_ | apply Kd.rN_ | apply Kd.rD_)); exact HO_10.out) hb); have n2_ := Aside0.mk (blk_below (g := gb390) (o := .cells #[.int .i64 a2_0, .int .i64 a2_1, .int .i64 a2_2] 30 (0, 0)) (by (with_reducible repeat (first | refine bN_ ?_ _ | refine bD_ ?_ | refine bA_ ?_ _)); exact BK390.out) hb); have n3_ := Aside0.mk (blk_below (g := gb394) (o := .cells #[.int .i64 ((rd_T50 l1 x7_2).f1.f0), .int .i64 ((rd_T50 l1 x7_2).f1.f1), .int .i64 ((rd_T50 l1 x7_2).f1.f2), .int .i64 ((rd_T50 l1 x7_2).f1.f3)] 28 (0, 0)) (by (with_reducible repeat (first | refine bN_ ?_ _ | refine bD_ ?_ | refine bA_ ?_ _)); exact BK394.out) hb); have n4_ := Aside0.mk (below_step (by repeat (first | (with_reducible first | exact HB.out | apply lA_ | apply lN_ | apply lD_ | refine lS_ ?_ GE390.out | refine lS_ ?_ GE394.out) | exact HB.out)) hb); clear HO_0; clear HO_10; clear BK390; clear BK394; clear HB; have HO_0 := n0_; have HO_10 := n1_; have BK390 := n2_; have BK394 := n3_; have HB := n4_; clear n0_ n1_ n2_ n3_ n4_; (try clear hb); (try clear hb2); (try clear hk); (try clear hi); refine hK.out _ _ ⟨(blk_cell BK390.out 0).trans rfl, (blk_cell BK390.out 1).trans rfl, (blk_cell BK390.out 2).trans rfl, ((HB.out.cell (World.block_lt_of_cell? w _ hw420_0)).trans hw420_0), ((HB.out.cell (World.block_lt_of_cell? w _ hw420_1)).trans hw420_1), ((HB.out.cell (World.block_lt_of_cell? w _ hw420_2)).trans hw420_2), ((HB.out.cell (World.block_lt_of_cell? w _ hw420_3)).trans hw420_3), ((HB.out.cell (World.block_lt_of_cell? w _ hw420_4)).trans hw420_4)⟩ (fun hHeld => ?_)
                      clear hK K; refine norm_ (a' := ?_) ?_ ?_
                      rotate_left
                      ·
                       show Act.put _ (some 140) _ = _
                       simp only [Act.put, List.setIfInBounds_toArray, List.set_cons_zero, List.set_cons_succ, i64_w, i32_w]; rfl
                      refine pu_ ?_ 44 (some 141) skiarealaw52_ClosureHeld.b44 rfl rfl HT_ (by kernel_rfl) (fun _ _ _ h => h) (by rfl) ?_ ?_ ?_ ?_; rotate_left; (intro w'; go_simp; with_reducible rfl); rotate_left; (simp only [Act.put, sA_, sB_, sC_, i64_w, i32_w]; rfl)
                      refine pu_ ?_ 45 (some 142) skiarealaw52_ClosureHeld.b45 rfl rfl HT_ (by kernel_rfl) (fun _ _ _ h => h) (by rfl) ?_ ?_ ?_ ?_; rotate_left; (intro w'; go_simp; with_reducible rfl); rotate_left; (simp only [Act.put, sA_, sB_, sC_, i64_w, i32_w]; rfl)
                      refine pu_ ?_ 46 (some 143) skiarealaw52_ClosureHeld.b46 rfl rfl HT_ (by kernel_rfl) (fun _ _ _ h => h) (by rfl) ?_ ?_ ?_ ?_; rotate_left; (intro w'; go_simp; with_reducible rfl); rotate_left; (simp only [Act.put, sA_, sB_, sC_, i64_w, i32_w]; rfl)
                      refine pu_ ?_ 47 (some 144) skiarealaw52_ClosureHeld.b47 rfl rfl HT_ (by kernel_rfl) (fun _ _ _ h => h) (by rfl) ?_ ?_ ?_ ?_; rotate_left; (intro w'; go_simp; with_reducible rfl); rotate_left; (simp only [Act.put, sA_, sB_, sC_, i64_w, i32_w]; rfl)
                      refine pu_ ?_ 48 (some 145) skiarealaw52_ClosureHeld.b48 rfl rfl HT_ (by kernel_rfl) (fun _ _ _ h => h) (by rfl) ?_ ?_ ?_ ?_; rotate_left; (intro w'; go_simp; with_reducible rfl); rotate_left; (simp only [Act.put, sA_, sB_, sC_, i64_w, i32_w]; rfl)
                      refine pu_ ?_ 50 (some 147) skiarealaw52_ClosureHeld.b49 rfl rfl HT_ (by kernel_rfl) (fun _ _ _ h => h) (by rfl) ?_ ?_ ?_ ?_; rotate_left; (intro w'; go_simp; with_reducible rfl); rotate_left; (simp only [Act.put, sA_, sB_, sC_, i64_w, i32_w]; rfl)
                      refine pu_ ?_ 53 (some 150) skiarealaw52_ClosureHeld.b50 rfl rfl HT_ (by kernel_rfl) (fun _ _ _ h => h) (by rfl) ?_ ?_ ?_ ?_; rotate_left; (intro w'; go_simp; with_reducible rfl); rotate_left; (simp only [Act.put, sA_, sB_, sC_, i64_w, i32_w]; rfl)
                      refine pu_ ?_ 56 (some 153) skiarealaw52_ClosureHeld.b51 rfl rfl HT_ (by kernel_rfl) (fun _ _ _ h => h) (by rfl) ?_ ?_ ?_ ?_; rotate_left; (intro w'; go_simp; with_reducible rfl); rotate_left; (simp only [Act.put, sA_, sB_, sC_, i64_w, i32_w]; rfl)
                      refine pu_ ?_ 57 (some 154) skiarealaw52_ClosureHeld.b52 rfl rfl HT_ (by kernel_rfl) (fun _ _ _ h => h) (by rfl) ?_ ?_ ?_ ?_; rotate_left; (intro w'; go_simp; with_reducible rfl); rotate_left; (simp only [Act.put, sA_, sB_, sC_, i64_w, i32_w]; rfl)
                      refine take_ (i := 49) (N := some 146) (v := ?_) (a' := ?_) skiarealaw52_ClosureHeld.b53 rfl rfl (take_ofW HT_.out HW_.out (by kernel_rfl)) (fun _ _ _ h => h) (Or.inl ⟨by rfl, ?_⟩) hHeld ?_ ?_
                      rotate_left
                      ·
                       rintro w' ⟨s0, s1, s2, s3, s4, s5, s6, s7⟩; go_simp
                       with_reducible rfl
                      rotate_left
                      ·
                       simp only [Act.put, List.setIfInBounds_toArray, List.set_cons_zero, List.set_cons_succ, i64_w, i32_w]; rfl
                      refine take_ (i := 51) (N := some 148) (v := ?_) (a' := ?_) skiarealaw52_ClosureHeld.b54 rfl rfl (take_ofW HT_.out HW_.out (by kernel_rfl)) (fun _ _ _ h => h) (Or.inl ⟨by rfl, ?_⟩) hHeld ?_ ?_
                      rotate_left
                      ·
                       rintro w' ⟨s0, s1, s2, s3, s4, s5, s6, s7⟩; go_simp
                       with_reducible rfl
                      rotate_left
                      ·
                       simp only [Act.put, List.setIfInBounds_toArray, List.set_cons_zero, List.set_cons_succ, i64_w, i32_w]; rfl
                      refine take_ (i := 54) (N := some 151) (v := ?_) (a' := ?_) skiarealaw52_ClosureHeld.b55 rfl rfl (take_ofW HT_.out HW_.out (by kernel_rfl)) (fun _ _ _ h => h) (Or.inl ⟨by rfl, ?_⟩) hHeld ?_ ?_
                      rotate_left
                      ·
                       rintro w' ⟨s0, s1, s2, s3, s4, s5, s6, s7⟩; go_simp
                       with_reducible rfl
                      rotate_left
                      ·
                       simp only [Act.put, List.setIfInBounds_toArray, List.set_cons_zero, List.set_cons_succ, i64_w, i32_w]; rfl
                      refine one_ (i := 52) (N := some 149) skiarealaw52_ClosureHeld.b56 rfl rfl (one_of HT_.out (by kernel_rfl)) (by decide) (fun K hK => ?_)
                      refine goes_ Try.func20 (by kernel_rfl) rfl #[.slice Ao38 x10_16.length co38, .int .i64 a2_0, .int .i64 a2_1] (by rfl) rfl rfl (by (try simp only [List.map_toArray, List.map_cons, List.map_nil]); first | done | rfl | (simp only [List.length_drop, List.length_take]; rfl)) ?_
                      with_reducible refine (closure_Of.calls kj34 _ _ x10_16 a2_0 a2_1 t422 _ ?side1 ?side2 A87.out).mono ?_
                      (case side1 => repeat (first | exact (Kd.R_reads' HO_10.out).2.2 | (with_reducible refine Kd.cA_ ?_ _) | (with_reducible refine Kd.cN_ ?_ _) | (with_reducible refine Kd.cD_ ?_))); (case side2 => exact (Kd.R_reads' HO_10.out).2.1); rintro e w92 ⟨v423, rfl, ho0, hb⟩; refine ⟨_, rfl, ?_⟩
                      have n0_ := Aside0.mk (Kd.V_elder' (by (with_reducible repeat (first | apply Kd.V_alloc | apply Kd.V_drewN | apply Kd.V_drew)); exact HO_0.out) (Kd.R_base ho0) hb); have n1_ := Aside0.mk (Kd.R_below (by (with_reducible repeat (first | apply Kd.rA_ | apply Kd.rN_ | apply Kd.rD_)); exact HO_10.out) hb); have n2_ := Aside0.mk (Kd.R_lower (Kd.R_newM (M := fun k_ => (w.heap.size ≤ k_)) ho0 (below_size (by repeat (first | (with_reducible first | exact HB.out | apply lA_ | apply lN_ | apply lD_ | refine lS_ ?_ GE390.out | refine lS_ ?_ GE394.out) | exact HB.out))) (fun k_ h_ => h_)) (below_size (by repeat (first | (with_reducible first | exact HB.out | apply lA_ | apply lN_ | apply lD_ | refine lS_ ?_ GE390.out | refine lS_ ?_ GE394.out) | exact HB.out)))); have n3_ := Aside0.mk (blk_below (g := gb390) (o := .cells #[.int .i64 a2_0, .int .i64 a2_1, .int .i64 a2_2] 30 (0, 0)) (by (with_reducible repeat (first | refine bN_ ?_ _ | refine bD_ ?_ | refine bA_ ?_ _)); exact BK390.out) hb); have n4_ := Aside0.mk (blk_below (g := gb394) (o := .cells #[.int .i64 ((rd_T50 l1 x7_2).f1.f0), .int .i64 ((rd_T50 l1 x7_2).f1.f1), .int .i64 ((rd_T50 l1 x7_2).f1.f2), .int .i64 ((rd_T50 l1 x7_2).f1.f3)] 28 (0, 0)) (by (with_reducible repeat (first | refine bN_ ?_ _ | refine bD_ ?_ | refine bA_ ?_ _)); exact BK394.out) hb); have n5_ := Aside0.mk (below_step (by repeat (first | (with_reducible first | exact HB.out | apply lA_ | apply lN_ | apply lD_ | refine lS_ ?_ GE390.out | refine lS_ ?_ GE394.out) | exact HB.out)) hb); clear HO_0; clear HO_10; clear BK390; clear BK394; clear HB; have HO_0 := n0_; have HO_10 := n1_; have HO424 := n2_; have BK390 := n3_; have BK394 := n4_; have HB := n5_; clear n0_ n1_ n2_ n3_ n4_ n5_; (try clear hb); (try clear hb2); (try clear hk); (try clear hi); (try clear ho0); obtain ⟨Ao93, co93, eo93⟩ := Kd.R_slice HO424.out; (first | subst eo93 | (injection eo93 with f1_ f2_ f3_; have f4_ := f1_.symm; have f5_ := f3_.symm; clear f1_ f2_ f3_; subst f4_; subst f5_))
                      refine hK.out _ _ ⟨(blk_cell BK390.out 0).trans rfl, (blk_cell BK390.out 1).trans rfl, (blk_cell BK390.out 2).trans rfl, ((HB.out.cell (World.block_lt_of_cell? w _ hw420_0)).trans hw420_0), ((HB.out.cell (World.block_lt_of_cell? w _ hw420_1)).trans hw420_1), ((HB.out.cell (World.block_lt_of_cell? w _ hw420_2)).trans hw420_2), ((HB.out.cell (World.block_lt_of_cell? w _ hw420_3)).trans hw420_3), ((HB.out.cell (World.block_lt_of_cell? w _ hw420_4)).trans hw420_4)⟩ (fun hHeld => ?_)
                      clear hK K; refine norm_ (a' := ?_) ?_ ?_
                      rotate_left
                      ·
                       show Act.put _ (some 149) _ = _
                       simp only [Act.put, List.setIfInBounds_toArray, List.set_cons_zero, List.set_cons_succ, i64_w, i32_w]; rfl
                      refine one_ (i := 55) (N := some 152) skiarealaw52_ClosureHeld.b57 rfl rfl (one_of HT_.out (by kernel_rfl)) (by decide) (fun K hK => ?_)
                      refine goes_ Try.func27 (by kernel_rfl) rfl #[.slice Ao93 t422.length co93, .int .i64 a2_2] (by rfl) rfl rfl (by (try simp only [List.map_toArray, List.map_cons, List.map_nil]); first | done | rfl | (simp only [List.length_drop, List.length_take]; rfl)) ?_
                      with_reducible refine (skiarealaw52_has.calls kj34 _ _ t422 a2_2 t425 _ ?side1 ?side2 A88.out).mono ?_
                      (case side1 => repeat (first | exact (Kd.R_reads' HO424.out).2.2 | (with_reducible refine Kd.cA_ ?_ _) | (with_reducible refine Kd.cN_ ?_ _) | (with_reducible refine Kd.cD_ ?_))); (case side2 => exact (Kd.R_reads' HO424.out).2.1); rintro e w' ⟨rfl, ⟨nd, rfl⟩⟩; refine ⟨_, rfl, ?_⟩
                      refine hK.out _ _ ⟨(blk_cell BK390.out 0).trans rfl, (blk_cell BK390.out 1).trans rfl, (blk_cell BK390.out 2).trans rfl, ((HB.out.cell (World.block_lt_of_cell? w _ hw420_0)).trans hw420_0), ((HB.out.cell (World.block_lt_of_cell? w _ hw420_1)).trans hw420_1), ((HB.out.cell (World.block_lt_of_cell? w _ hw420_2)).trans hw420_2), ((HB.out.cell (World.block_lt_of_cell? w _ hw420_3)).trans hw420_3), ((HB.out.cell (World.block_lt_of_cell? w _ hw420_4)).trans hw420_4)⟩ (fun hHeld => ?_)
                      clear hK K; refine norm_ (a' := ?_) ?_ ?_
                      rotate_left
                      ·
                       show Act.put _ (some 152) _ = _
                       simp only [Act.put, List.setIfInBounds_toArray, List.set_cons_zero, List.set_cons_succ, i64_w, i32_w]; rfl
                      refine pu_ ?_ 58 (some 155) skiarealaw52_ClosureHeld.b58 rfl rfl HT_ (by kernel_rfl) (fun _ _ _ h => h) (by rfl) ?_ ?_ ?_ ?_; rotate_left; (intro w'; go_simp; with_reducible rfl); rotate_left; (simp only [Act.put, sA_, sB_, sC_, i64_w, i32_w]; rfl)
                      refine pu_ ?_ 59 (some 156) skiarealaw52_ClosureHeld.b59 rfl rfl HT_ (by kernel_rfl) (fun _ _ _ h => h) (by rfl) ?_ ?_ ?_ ?_; rotate_left; (intro w'; go_simp; with_reducible rfl); rotate_left; (simp only [Act.put, sA_, sB_, sC_, i64_w, i32_w]; rfl)
                      refine done_ (done_of HT_.out (by kernel_rfl)) ?_
                      try go_wp2
                      go_roundg kj34
                      case measure => have := HJ5.out; have := HK2.out; have := HJ16.out; have := HJ34.out; omega
                      case rel => exact ⟨(x10_16), (wrap64 (x7_2 + 1)), (by first | rfl | (simp; done) | (simp [*]; done)), H', ⟨by have := HJ5.out; have := HK2.out; have := HJ16.out; have := HJ34.out; omega⟩, ⟨Kd.R_V (by (with_reducible repeat (first | apply Kd.rA_ | apply Kd.rN_ | apply Kd.rD_)); exact Kd.R_mono (Kd.R_types HO_10.out BK390.out (by decide)) (fun k_ hk => ⟨.inr hk.1.1, hk.2⟩))⟩, ⟨by (with_reducible repeat (first | refine bN_ ?_ _ | refine bD_ ?_ | refine bA_ ?_ _)); exact BK390.out⟩, ⟨by repeat (first | (with_reducible first | exact HB.out | apply lA_ | apply lN_ | apply lD_ | refine lS_ ?_ GE390.out | refine lS_ ?_ GE394.out) | exact HB.out)⟩⟩
                   ·
                    rw [if_neg c86] at H
                    have c86b0 : (t421 == 0) = false := beq_eq_false_iff_ne.mpr c86; have c86b1 : (t421 != 0) = true := bne_iff_ne.mpr c86
                    exact absurd H (by simp)
                 ·
                  rw [if_neg c83] at H
                  exact absurd H (by simp)
                ·
                 rw [if_neg c82] at H
                 exact absurd H (by simp)
              ·
               replace c50 := Bool.eq_false_iff.mpr c50; subst c50; have H1 : (if ((decide (t395 < 0)) != (decide (t405 < 0))) = true then (none) else (if t395 ≥ 0 then (if t405 ≥ 0 then (if 0 ≤ t395 then (if t395 < (x0_2.length : Int) then (if 0 ≤ t405 then (if t405 < (x10_16.length : Int) then (if (!(((rd_T28 x0_2 t395).f0) == ((rd_T28 x10_16 t405).f0)) || (!(((rd_T28 x0_2 t395).f1) == ((rd_T28 x10_16 t405).f1)) || (!(((rd_T28 x0_2 t395).f2) == ((rd_T28 x10_16 t405).f2)) || (!(((rd_T28 x0_2 t395).f3) == ((rd_T28 x10_16 t405).f3)))))) = true then (none) else ((closure_Right.f kj34 x10_16).bind fun t428 => (if t428 = 0 then ((closure_Of.f kj34 x10_16 a2_0 a2_1).bind fun t429 => ((skiarealaw52_has.f kj34 t429 a2_2).bind fun t432 => (if (t432 != (decide (t405 ≥ 0))) = true then (none) else (skiarealaw52_ClosureHeld.l0 kj34 x10_16 l1 (wrap64 (x7_2 + 1)) a2_0 a2_1 a2_2)))) else (none)))) else (none)) else (none)) else (none)) else (none)) else ((closure_Right.f kj34 x10_16).bind fun t433 => (if t433 = 0 then ((closure_Of.f kj34 x10_16 a2_0 a2_1).bind fun t434 => ((skiarealaw52_has.f kj34 t434 a2_2).bind fun t437 => (if (t437 != (decide (t405 ≥ 0))) = true then (none) else (skiarealaw52_ClosureHeld.l0 kj34 x10_16 l1 (wrap64 (x7_2 + 1)) a2_0 a2_1 a2_2)))) else (none)))) else ((closure_Right.f kj34 x10_16).bind fun t438 => (if t438 = 0 then ((closure_Of.f kj34 x10_16 a2_0 a2_1).bind fun t439 => ((skiarealaw52_has.f kj34 t439 a2_2).bind fun t442 => (if (t442 != (decide (t405 ≥ 0))) = true then (none) else (skiarealaw52_ClosureHeld.l0 kj34 x10_16 l1 (wrap64 (x7_2 + 1)) a2_0 a2_1 a2_2)))) else (none))))) = some r := by rw [if_neg (show ¬ (false = true) by decide)] at H; exact H
               clear H; have H := H1; clear H1; by_cases c94 : ((decide (t395 < 0)) != (decide (t405 < 0))) = true
               ·
                rw [if_pos c94] at H
                have c94b0 : ((decide (t395 < 0)) != (decide (t405 < 0))) = true := c94; (try (have c94b1 : decide ((decide (t395 < 0)) = (decide (t405 < 0))) = false := by simpa using c94))
                (try (have c94b2 : ((decide (t395 < 0)) == (decide (t405 < 0))) = false := by simpa using c94))
                (try (have c94b3 : ¬ ((decide (t395 < 0)) = (decide (t405 < 0))) := by simpa using c94))
                clear c94
                exact absurd H (by simp)
               ·
                rw [if_neg c94] at H
                have c94b0 : ((decide (t395 < 0)) != (decide (t405 < 0))) = false := by simpa using c94
                (try (have c94b1 : decide ((decide (t395 < 0)) = (decide (t405 < 0))) = true := by simpa using c94))
                (try (have c94b2 : ((decide (t395 < 0)) == (decide (t405 < 0))) = true := by simpa using c94))
                clear c94; by_cases c95 : t395 ≥ 0
                ·
                 rw [if_pos c95] at H
                 have c95b0 : decide (0 ≤ t395) = true := decide_eq_true c95; clear c95; by_cases c96 : t405 ≥ 0
                 ·
                  rw [if_pos c96] at H
                  have c96b0 : decide (0 ≤ t405) = true := decide_eq_true c96; clear c96; by_cases c97 : 0 ≤ t395
                  ·
                   rw [if_pos c97] at H
                   have c97b0 : decide (0 ≤ t395) = true := decide_eq_true c97; clear c97; by_cases c98 : t395 < (x0_2.length : Int)
                   ·
                    rw [if_pos c98] at H
                    have c98b0 : decide (t395 < (x0_2.length : Int)) = true := decide_eq_true c98; clear c98; by_cases c99 : 0 ≤ t405
                    ·
                     rw [if_pos c99] at H
                     have c99b0 : decide (0 ≤ t405) = true := decide_eq_true c99; clear c99; by_cases c100 : t405 < (x10_16.length : Int)
                     ·
                      rw [if_pos c100] at H
                      have c100b0 : decide (t405 < (x10_16.length : Int)) = true := decide_eq_true c100; clear c100; by_cases c101 : (!(((rd_T28 x0_2 t395).f0) == ((rd_T28 x10_16 t405).f0)) || (!(((rd_T28 x0_2 t395).f1) == ((rd_T28 x10_16 t405).f1)) || (!(((rd_T28 x0_2 t395).f2) == ((rd_T28 x10_16 t405).f2)) || (!(((rd_T28 x0_2 t395).f3) == ((rd_T28 x10_16 t405).f3)))))) = true
                      ·
                       rw [if_pos c101] at H
                       have c101b0 : (!(((rd_T28 x0_2 t395).f0) == ((rd_T28 x10_16 t405).f0)) || (!(((rd_T28 x0_2 t395).f1) == ((rd_T28 x10_16 t405).f1)) || (!(((rd_T28 x0_2 t395).f2) == ((rd_T28 x10_16 t405).f2)) || (!(((rd_T28 x0_2 t395).f3) == ((rd_T28 x10_16 t405).f3)))))) = true := c101; clear c101
                       exact absurd H (by simp)
                      ·
                       rw [if_neg c101] at H
                       have c101b0 : (!(((rd_T28 x0_2 t395).f0) == ((rd_T28 x10_16 t405).f0)) || (!(((rd_T28 x0_2 t395).f1) == ((rd_T28 x10_16 t405).f1)) || (!(((rd_T28 x0_2 t395).f2) == ((rd_T28 x10_16 t405).f2)) || (!(((rd_T28 x0_2 t395).f3) == ((rd_T28 x10_16 t405).f3)))))) = false := by simpa using c101
                       clear c101; replace H := Option.bind_eq_some_iff.mp H; obtain ⟨t428, A1020, H⟩ := H; replace H : (if t428 = 0 then ((closure_Of.f kj34 x10_16 a2_0 a2_1).bind fun t429 => ((skiarealaw52_has.f kj34 t429 a2_2).bind fun t432 => (if (t432 != (decide (t405 ≥ 0))) = true then (none) else (skiarealaw52_ClosureHeld.l0 kj34 x10_16 l1 (wrap64 (x7_2 + 1)) a2_0 a2_1 a2_2)))) else (none)) = some r := H; have A102 := Aside0.mk A1020; clear A1020; by_cases c103 : t428 = 0
                       ·
                        rw [if_pos c103] at H
                        have c103b0 : (t428 == 0) = true := beq_iff_eq.mpr c103; have c103b1 : (t428 != 0) = false := bne_eq_false_iff_eq.mpr c103; clear c103; replace H := Option.bind_eq_some_iff.mp H; obtain ⟨t429, A1040, H⟩ := H; replace H : ((skiarealaw52_has.f kj34 t429 a2_2).bind fun t432 => (if (t432 != (decide (t405 ≥ 0))) = true then (none) else (skiarealaw52_ClosureHeld.l0 kj34 x10_16 l1 (wrap64 (x7_2 + 1)) a2_0 a2_1 a2_2))) = some r := H; have A104 := Aside0.mk A1040; clear A1040; replace H := Option.bind_eq_some_iff.mp H; obtain ⟨t432, A1050, H⟩ := H; replace H : (if (t432 != (decide (t405 ≥ 0))) = true then (none) else (skiarealaw52_ClosureHeld.l0 kj34 x10_16 l1 (wrap64 (x7_2 + 1)) a2_0 a2_1 a2_2)) = some r := H; have A105 := Aside0.mk A1050; clear A1050; by_cases c106 : (t432 != (decide (t405 ≥ 0))) = true
                        ·
                         rw [if_pos c106] at H
                         exact absurd H (by simp)
                        ·
                         rw [if_neg c106] at H
                         have c106b0 : (t432 != (decide (t405 ≥ 0))) = false := by simpa using c106
                         (first | (have c106z : t432 = true := (bne_eq_false_iff_eq.1 c106b0).trans (decide_eq_true (of_decide_eq_true (show decide (0 ≤ t405) = true by assumption)))) | (have c106z : t432 = false := (bne_eq_false_iff_eq.1 c106b0).trans (decide_eq_false (of_decide_eq_false (show decide (0 ≤ t405) = false by assumption)))) | skip)
                         (try (have c106b1 : decide (t432 = (decide (t405 ≥ 0))) = true := by simpa using c106))
                         (try (have c106b2 : (t432 == (decide (t405 ≥ 0))) = true := by simpa using c106))
                         clear c106; have H' := Aside0.mk H; clear H; try go_wp2
                         have n0_ := Aside0.mk (Kd.V_drew HO_0.out); have n1_ := Aside0.mk (Kd.rD_ HO_10.out); have n2_ := Aside0.mk (bD_ BK390.out); have n3_ := Aside0.mk (bD_ BK394.out); have n4_ := Aside0.mk (lD_ HB.out); clear HO_0; clear HO_10; clear BK390; clear BK394; clear HB; have HO_0 := n0_; have HO_10 := n1_; have BK390 := n2_; have BK394 := n3_; have HB := n4_; clear n0_ n1_ n2_ n3_ n4_; have p426 : 0 ≤ (t395 : Int) := of_decide_eq_true (by first | (with_reducible assumption) | assumption); have q426 : t395 < (x0_2.length : Int) := of_decide_eq_true (by first | (with_reducible assumption) | assumption); obtain ⟨ad426, e426, hx426_0, hx426_1, hx426_2, hx426_3⟩ := at_T28 (Kd.V_reads' HO_0.out).2.2 t395 p426 q426
                         cases e426
                         replace p426 := eq_true p426; replace q426 := eq_true q426; have p427 : 0 ≤ (t405 : Int) := of_decide_eq_true (by first | (with_reducible assumption) | assumption); have q427 : t405 < (x10_16.length : Int) := of_decide_eq_true (by first | (with_reducible assumption) | assumption); obtain ⟨ad427, e427, hx427_0, hx427_1, hx427_2, hx427_3⟩ := at_T28 (Kd.R_reads' HO_10.out).2.2 t405 p427 q427
                         cases e427
                         replace p427 := eq_true p427; replace q427 := eq_true q427
                         as_aux_lemma =>
                          refine start_ (n := 60) (S := fun w' => w'.cell? ⟨gb390, 0, none⟩ = some (.int .i64 a2_0) ∧ w'.cell? ⟨gb390, 1, none⟩ = some (.int .i64 a2_1) ∧ w'.cell? ⟨gb390, 2, none⟩ = some (.int .i64 a2_2) ∧ w'.cell? (ad426.add ((t395).toNat * 4)) = some (.int .i64 ((rd_T28 x0_2 t395).f0)) ∧ w'.cell? ⟨(ad426.add ((t395).toNat * 4)).block, (ad426.add ((t395).toNat * 4)).off + 1, none⟩ = some (.int .i64 ((rd_T28 x0_2 t395).f1)) ∧ w'.cell? ⟨(ad426.add ((t395).toNat * 4)).block, (ad426.add ((t395).toNat * 4)).off + 2, none⟩ = some (.int .i64 ((rd_T28 x0_2 t395).f2)) ∧ w'.cell? ⟨(ad426.add ((t395).toNat * 4)).block, (ad426.add ((t395).toNat * 4)).off + 3, none⟩ = some (.int .i64 ((rd_T28 x0_2 t395).f3)) ∧ w'.cell? (ad427.add ((t405).toNat * 4)) = some (.int .i64 ((rd_T28 x10_16 t405).f0)) ∧ w'.cell? ⟨(ad427.add ((t405).toNat * 4)).block, (ad427.add ((t405).toNat * 4)).off + 1, none⟩ = some (.int .i64 ((rd_T28 x10_16 t405).f1)) ∧ w'.cell? ⟨(ad427.add ((t405).toNat * 4)).block, (ad427.add ((t405).toNat * 4)).off + 2, none⟩ = some (.int .i64 ((rd_T28 x10_16 t405).f2)) ∧ w'.cell? ⟨(ad427.add ((t405).toNat * 4)).block, (ad427.add ((t405).toNat * 4)).off + 3, none⟩ = some (.int .i64 ((rd_T28 x10_16 t405).f3))) (ds := []) #[false, false, false, false, false, false, false, false, false, false, false, false, false, false, false, false, false, false, false, false, false, false, false, false, false, false, false, false, false, false, false, false, false, false, false, false, false, false, false, false, false, false, false, false, false, false, false, false, false, false, false, false, false, false, false, false, false, false, false, false] (by kernel_rfl) rfl rfl ⟨(blk_cell BK390.out 0).trans rfl, (blk_cell BK390.out 1).trans rfl, (blk_cell BK390.out 2).trans rfl, hx426_0, hx426_1, hx426_2, hx426_3, hx427_0, hx427_1, hx427_2, hx427_3⟩ (fun hHeld => ?_); refine with_tabW skiarealaw52_ClosureHeld.tab20 skiarealaw52_ClosureHeld.bits20 (fun HT_ HW_ => ?_)
                          generalize wc.drew = w107 at HO_0 HO_10 BK390 BK394 HB hx426_0 hx426_1 hx426_2 hx426_3 hx427_0 hx427_1 hx427_2 hx427_3 hHeld ⊢
                          refine pu_ ?_ 0 (some 97) skiarealaw52_ClosureHeld.b0 rfl rfl HT_ (by kernel_rfl) (fun _ _ _ h => h) (by rfl) ?_ ?_ ?_ ?_; rotate_left; (intro w'; go_simp; with_reducible rfl); rotate_left; (simp only [Act.put, sA_, sB_, sC_, i64_w, i32_w]; rfl)
                          refine pu_ ?_ 1 (some 98) skiarealaw52_ClosureHeld.b1 rfl rfl HT_ (by kernel_rfl) (fun _ _ _ h => h) (by rfl) ?_ ?_ ?_ ?_; rotate_left; (intro w'; go_simp; with_reducible rfl); rotate_left; (simp only [Act.put, sA_, sB_, sC_, i64_w, i32_w]; rfl)
                          refine pu_ ?_ 2 (some 99) skiarealaw52_ClosureHeld.b2 rfl rfl HT_ (by kernel_rfl) (fun _ _ _ h => h) (by rfl) ?_ ?_ ?_ ?_; rotate_left; (intro w'; go_simp; with_reducible rfl); rotate_left; (simp only [Act.put, sA_, sB_, sC_, i64_w, i32_w]; rfl)
                          refine pu_ ?_ 3 (some 100) skiarealaw52_ClosureHeld.b3 rfl rfl HT_ (by kernel_rfl) (fun _ _ _ h => h) (by rfl) ?_ ?_ ?_ ?_; rotate_left; (intro w'; go_simp; with_reducible rfl); rotate_left; (simp only [Act.put, sA_, sB_, sC_, i64_w, i32_w]; rfl)
                          refine pu_ ?_ 4 (some 101) skiarealaw52_ClosureHeld.b4 rfl rfl HT_ (by kernel_rfl) (fun _ _ _ h => h) (by rfl) ?_ ?_ ?_ ?_; rotate_left; (intro w'; go_simp; with_reducible rfl); rotate_left; (simp only [Act.put, sA_, sB_, sC_, i64_w, i32_w]; rfl)
                          refine pu_ ?_ 5 (some 102) skiarealaw52_ClosureHeld.b5 rfl rfl HT_ (by kernel_rfl) (fun _ _ _ h => h) (by rfl) ?_ ?_ ?_ ?_; rotate_left; (intro w'; go_simp; with_reducible rfl); rotate_left; (simp only [Act.put, sA_, sB_, sC_, i64_w, i32_w]; rfl)
                          refine pu_ ?_ 6 (some 103) skiarealaw52_ClosureHeld.b6 rfl rfl HT_ (by kernel_rfl) (fun _ _ _ h => h) (by rfl) ?_ ?_ ?_ ?_; rotate_left; (intro w'; go_simp; with_reducible rfl); rotate_left; (simp only [Act.put, sA_, sB_, sC_, i64_w, i32_w]; rfl)
                          refine pu_ ?_ 7 (some 104) skiarealaw52_ClosureHeld.b7 rfl rfl HT_ (by kernel_rfl) (fun _ _ _ h => h) (by rfl) ?_ ?_ ?_ ?_; rotate_left; (intro w'; go_simp; with_reducible rfl); rotate_left; (simp only [Act.put, sA_, sB_, sC_, i64_w, i32_w]; rfl)
                          refine pu_ ?_ 8 (some 105) skiarealaw52_ClosureHeld.b8 rfl rfl HT_ (by kernel_rfl) (fun _ _ _ h => h) (by rfl) ?_ ?_ ?_ ?_; rotate_left; (intro w'; go_simp; with_reducible rfl); rotate_left; (simp only [Act.put, sA_, sB_, sC_, i64_w, i32_w]; rfl)
                          refine pu_ ?_ 9 (some 106) skiarealaw52_ClosureHeld.b9 rfl rfl HT_ (by kernel_rfl) (fun _ _ _ h => h) (by rfl) ?_ ?_ ?_ ?_; rotate_left; (intro w'; go_simp; with_reducible rfl); rotate_left; (simp only [Act.put, sA_, sB_, sC_, i64_w, i32_w]; rfl)
                          refine pu_ ?_ 10 (some 107) skiarealaw52_ClosureHeld.b10 rfl rfl HT_ (by kernel_rfl) (fun _ _ _ h => h) (by rfl) ?_ ?_ ?_ ?_; rotate_left; (intro w'; go_simp; with_reducible rfl); rotate_left; (simp only [Act.put, sA_, sB_, sC_, i64_w, i32_w]; rfl)
                          refine pu_ ?_ 11 (some 108) skiarealaw52_ClosureHeld.b11 rfl rfl HT_ (by kernel_rfl) (fun _ _ _ h => h) (by rfl) ?_ ?_ ?_ ?_; rotate_left; (intro w'; go_simp; with_reducible rfl); rotate_left; (simp only [Act.put, sA_, sB_, sC_, i64_w, i32_w]; rfl)
                          refine pu_ ?_ 12 (some 109) skiarealaw52_ClosureHeld.b12 rfl rfl HT_ (by kernel_rfl) (fun _ _ _ h => h) (by rfl) ?_ ?_ ?_ ?_; rotate_left; (intro w'; go_simp; with_reducible rfl); rotate_left; (simp only [Act.put, sA_, sB_, sC_, i64_w, i32_w]; rfl)
                          refine pu_ ?_ 13 (some 110) skiarealaw52_ClosureHeld.b13 rfl rfl HT_ (by kernel_rfl) (fun _ _ _ h => h) (by rfl) ?_ ?_ ?_ ?_; rotate_left; (intro w'; go_simp; with_reducible rfl); rotate_left; (simp only [Act.put, sA_, sB_, sC_, i64_w, i32_w]; rfl)
                          refine pu_ ?_ 14 (some 111) skiarealaw52_ClosureHeld.b14 rfl rfl HT_ (by kernel_rfl) (fun _ _ _ h => h) (by rfl) ?_ ?_ ?_ ?_; rotate_left; (intro w'; go_simp; with_reducible rfl); rotate_left; (simp only [Act.put, sA_, sB_, sC_, i64_w, i32_w]; rfl)
                          refine pu_ ?_ 15 (some 112) skiarealaw52_ClosureHeld.b15 rfl rfl HT_ (by kernel_rfl) (fun _ _ _ h => h) (by rfl) ?_ ?_ ?_ ?_; rotate_left; (intro w'; go_simp; with_reducible rfl); rotate_left; (simp only [Act.put, sA_, sB_, sC_, i64_w, i32_w]; rfl)
                          refine pu_ ?_ 16 (some 113) skiarealaw52_ClosureHeld.b16 rfl rfl HT_ (by kernel_rfl) (fun _ _ _ h => h) (by rfl) ?_ ?_ ?_ ?_; rotate_left; (intro w'; go_simp; with_reducible rfl); rotate_left; (simp only [Act.put, sA_, sB_, sC_, i64_w, i32_w]; rfl)
                          refine pu_ ?_ 17 (some 114) skiarealaw52_ClosureHeld.b17 rfl rfl HT_ (by kernel_rfl) (fun _ _ _ h => h) (by rfl) ?_ ?_ ?_ ?_; rotate_left; (intro w'; go_simp; with_reducible rfl); rotate_left; (simp only [Act.put, sA_, sB_, sC_, i64_w, i32_w]; rfl)
                          refine pu_ ?_ 18 (some 115) skiarealaw52_ClosureHeld.b18 rfl rfl HT_ (by kernel_rfl) (fun _ _ _ h => h) (by rfl) ?_ ?_ ?_ ?_; rotate_left; (intro w'; go_simp; with_reducible rfl); rotate_left; (simp only [Act.put, sA_, sB_, sC_, i64_w, i32_w]; rfl)
                          refine pu_ ?_ 19 (some 116) skiarealaw52_ClosureHeld.b19 rfl rfl HT_ (by kernel_rfl) (fun _ _ _ h => h) (by rfl) ?_ ?_ ?_ ?_; rotate_left; (intro w'; go_simp; with_reducible rfl); rotate_left; (simp only [Act.put, sA_, sB_, sC_, i64_w, i32_w]; rfl)
                          refine pu_ ?_ 21 (some 118) skiarealaw52_ClosureHeld.b20 rfl rfl HT_ (by kernel_rfl) (fun _ _ _ h => h) (by rfl) ?_ ?_ ?_ ?_; rotate_left; (intro w'; go_simp; with_reducible rfl); rotate_left; (simp only [Act.put, sA_, sB_, sC_, i64_w, i32_w]; rfl)
                          refine pu_ ?_ 22 (some 119) skiarealaw52_ClosureHeld.b21 rfl rfl HT_ (by kernel_rfl) (fun _ _ _ h => h) (by rfl) ?_ ?_ ?_ ?_; rotate_left; (intro w'; go_simp; with_reducible rfl); rotate_left; (simp only [Act.put, sA_, sB_, sC_, i64_w, i32_w]; rfl)
                          refine pu_ ?_ 23 (some 120) skiarealaw52_ClosureHeld.b22 rfl rfl HT_ (by kernel_rfl) (fun _ _ _ h => h) (by rfl) ?_ ?_ ?_ ?_; rotate_left; (intro w'; go_simp; with_reducible rfl); rotate_left; (simp only [Act.put, sA_, sB_, sC_, i64_w, i32_w]; rfl)
                          refine take_ (i := 20) (N := some 117) (v := ?_) (a' := ?_) skiarealaw52_ClosureHeld.b23 rfl rfl (take_ofW HT_.out HW_.out (by kernel_rfl)) (fun _ _ _ h => h) (Or.inl ⟨by rfl, ?_⟩) hHeld ?_ ?_
                          rotate_left
                          ·
                           rintro w' ⟨s0, s1, s2, s3, s4, s5, s6, s7, s8, s9, s10⟩; go_simp
                           with_reducible rfl
                          rotate_left
                          ·
                           simp only [Act.put, List.setIfInBounds_toArray, List.set_cons_zero, List.set_cons_succ, i64_w, i32_w]; rfl
                          refine take_ (i := 24) (N := some 121) (v := ?_) (a' := ?_) skiarealaw52_ClosureHeld.b24 rfl rfl (take_ofW HT_.out HW_.out (by kernel_rfl)) (fun _ _ _ h => h) (Or.inl ⟨by rfl, ?_⟩) hHeld ?_ ?_
                          rotate_left
                          ·
                           rintro w' ⟨s0, s1, s2, s3, s4, s5, s6, s7, s8, s9, s10⟩; go_simp
                           with_reducible rfl
                          rotate_left
                          ·
                           simp only [Act.put, List.setIfInBounds_toArray, List.set_cons_zero, List.set_cons_succ, i64_w, i32_w]; rfl
                          refine pu_ ?_ 25 (some 122) skiarealaw52_ClosureHeld.b25 rfl rfl HT_ (by kernel_rfl) (fun _ _ _ h => h) (by rfl) ?_ ?_ ?_ ?_; rotate_left; (intro w'; go_simp; with_reducible rfl); rotate_left; (simp only [Act.put, sA_, sB_, sC_, i64_w, i32_w]; rfl)
                          refine pu_ ?_ 26 (some 123) skiarealaw52_ClosureHeld.b26 rfl rfl HT_ (by kernel_rfl) (fun _ _ _ h => h) (by rfl) ?_ ?_ ?_ ?_; rotate_left; (intro w'; go_simp; with_reducible rfl); rotate_left; (simp only [Act.put, sA_, sB_, sC_, i64_w, i32_w]; rfl)
                          refine pu_ ?_ 27 (some 124) skiarealaw52_ClosureHeld.b27 rfl rfl HT_ (by kernel_rfl) (fun _ _ _ h => h) (by rfl) ?_ ?_ ?_ ?_; rotate_left; (intro w'; go_simp; with_reducible rfl); rotate_left; (simp only [Act.put, sA_, sB_, sC_, i64_w, i32_w]; rfl)
                          refine pu_ ?_ 28 (some 125) skiarealaw52_ClosureHeld.b28 rfl rfl HT_ (by kernel_rfl) (fun _ _ _ h => h) (by rfl) ?_ ?_ ?_ ?_; rotate_left; (intro w'; go_simp; with_reducible rfl); rotate_left; (simp only [Act.put, sA_, sB_, sC_, i64_w, i32_w]; rfl)
                          refine pu_ ?_ 29 (some 126) skiarealaw52_ClosureHeld.b29 rfl rfl HT_ (by kernel_rfl) (fun _ _ _ h => h) (by rfl) ?_ ?_ ?_ ?_; rotate_left; (intro w'; go_simp; with_reducible rfl); rotate_left; (simp only [Act.put, sA_, sB_, sC_, i64_w, i32_w]; rfl)
                          refine pu_ ?_ 30 (some 127) skiarealaw52_ClosureHeld.b30 rfl rfl HT_ (by kernel_rfl) (fun _ _ _ h => h) (by rfl) ?_ ?_ ?_ ?_; rotate_left; (intro w'; go_simp; with_reducible rfl); rotate_left; (simp only [Act.put, sA_, sB_, sC_, i64_w, i32_w]; rfl)
                          refine pn_ ?_ 31 (some 128) skiarealaw52_ClosureHeld.b31 rfl rfl HT_ (by kernel_rfl) (fun _ _ _ h => h) (by rfl) ?_ ?_; rotate_left; (simp only [Act.put, sA_, sB_, sC_, i64_w, i32_w]; rfl)
                          refine pn_ ?_ 32 (some 129) skiarealaw52_ClosureHeld.b32 rfl rfl HT_ (by kernel_rfl) (fun _ _ _ h => h) (by rfl) ?_ ?_; rotate_left; (simp only [Act.put, sA_, sB_, sC_, i64_w, i32_w]; rfl)
                          refine pn_ ?_ 33 (some 130) skiarealaw52_ClosureHeld.b33 rfl rfl HT_ (by kernel_rfl) (fun _ _ _ h => h) (by rfl) ?_ ?_; rotate_left; (simp only [Act.put, sA_, sB_, sC_, i64_w, i32_w]; rfl)
                          refine pn_ ?_ 34 (some 131) skiarealaw52_ClosureHeld.b34 rfl rfl HT_ (by kernel_rfl) (fun _ _ _ h => h) (by rfl) ?_ ?_; rotate_left; (simp only [Act.put, sA_, sB_, sC_, i64_w, i32_w]; rfl)
                          refine pn_ ?_ 35 (some 132) skiarealaw52_ClosureHeld.b63 rfl rfl HT_ (by kernel_rfl) (fun _ _ _ h => h) (by rfl) ?_ ?_; rotate_left; (simp only [Act.put, sA_, sB_, sC_, i64_w, i32_w]; rfl)
                          refine pn_ ?_ 36 (some 133) skiarealaw52_ClosureHeld.b64 rfl rfl HT_ (by kernel_rfl) (fun _ _ _ h => h) (by rfl) ?_ ?_; rotate_left; (simp only [Act.put, sA_, sB_, sC_, i64_w, i32_w]; rfl)
                          refine pn_ ?_ 37 (some 134) skiarealaw52_ClosureHeld.b37 rfl rfl HT_ (by kernel_rfl) (fun _ _ _ h => h) (by rfl) ?_ ?_; rotate_left; (simp only [Act.put, sA_, sB_, sC_, i64_w, i32_w]; rfl)
                          refine pn_ ?_ 38 (some 135) skiarealaw52_ClosureHeld.b38 rfl rfl HT_ (by kernel_rfl) (fun _ _ _ h => h) (by rfl) ?_ ?_; rotate_left; (simp only [Act.put, sA_, sB_, sC_, i64_w, i32_w]; rfl)
                          refine pu_ ?_ 39 (some 136) skiarealaw52_ClosureHeld.b39 rfl rfl HT_ (by kernel_rfl) (fun _ _ _ h => h) (by rfl) ?_ ?_ ?_ ?_; rotate_left; (intro w'; go_simp; with_reducible rfl); rotate_left; (simp only [Act.put, sA_, sB_, sC_, i64_w, i32_w]; rfl)
                          refine pu_ ?_ 40 (some 137) skiarealaw52_ClosureHeld.b40 rfl rfl HT_ (by kernel_rfl) (fun _ _ _ h => h) (by rfl) ?_ ?_ ?_ ?_; rotate_left; (intro w'; go_simp; with_reducible rfl); rotate_left; (simp only [Act.put, sA_, sB_, sC_, i64_w, i32_w]; rfl)
                          refine pu_ ?_ 41 (some 138) skiarealaw52_ClosureHeld.b41 rfl rfl HT_ (by kernel_rfl) (fun _ _ _ h => h) (by rfl) ?_ ?_ ?_ ?_; rotate_left; (intro w'; go_simp; with_reducible rfl); rotate_left; (simp only [Act.put, sA_, sB_, sC_, i64_w, i32_w]; rfl)
                          refine pu_ ?_ 42 (some 139) skiarealaw52_ClosureHeld.b42 rfl rfl HT_ (by kernel_rfl) (fun _ _ _ h => h) (by rfl) ?_ ?_ ?_ ?_; rotate_left; (intro w'; go_simp; with_reducible rfl); rotate_left; (simp only [Act.put, sA_, sB_, sC_, i64_w, i32_w]; rfl)
                          refine one_ (i := 43) (N := some 140) skiarealaw52_ClosureHeld.b43 rfl rfl (one_of HT_.out (by kernel_rfl)) (by decide) (fun K hK => ?_)
                          refine goes_ Try.func10 (by kernel_rfl) rfl #[.slice (some ad427) x10_16.length co38] (by rfl) rfl rfl (by (try simp only [List.map_toArray, List.map_cons, List.map_nil]); first | done | rfl | (simp only [List.length_drop, List.length_take]; rfl)) ?_
                          with_reducible refine (closure_Right.calls kj34 _ _ x10_16 t428 _ ?side1 ?side2 A102.out).mono ?_
                          (case side1 => repeat (first | exact (Kd.R_reads' HO_10.out).2.2 | (with_reducible refine Kd.cA_ ?_ _) | (with_reducible refine Kd.cN_ ?_ _) | (with_reducible refine Kd.cD_ ?_))); (case side2 => exact (Kd.R_reads' HO_10.out).2.1); rintro e w108 ⟨rfl, hb⟩; try have HS3_ := (hb.cell (World.block_lt_of_cell? _ _ (hHeld.2.2.2.1))).trans (hHeld.2.2.2.1)
                          try have HS4_ := (hb.cell (World.block_lt_of_cell? _ _ (hHeld.2.2.2.2.1))).trans (hHeld.2.2.2.2.1)
                          try have HS5_ := (hb.cell (World.block_lt_of_cell? _ _ (hHeld.2.2.2.2.2.1))).trans (hHeld.2.2.2.2.2.1)
                          try have HS6_ := (hb.cell (World.block_lt_of_cell? _ _ (hHeld.2.2.2.2.2.2.1))).trans (hHeld.2.2.2.2.2.2.1)
                          try have HS7_ := (hb.cell (World.block_lt_of_cell? _ _ (hHeld.2.2.2.2.2.2.2.1))).trans (hHeld.2.2.2.2.2.2.2.1)
                          try have HS8_ := (hb.cell (World.block_lt_of_cell? _ _ (hHeld.2.2.2.2.2.2.2.2.1))).trans (hHeld.2.2.2.2.2.2.2.2.1)
                          try have HS9_ := (hb.cell (World.block_lt_of_cell? _ _ (hHeld.2.2.2.2.2.2.2.2.2.1))).trans (hHeld.2.2.2.2.2.2.2.2.2.1)
                          try have HS10_ := (hb.cell (World.block_lt_of_cell? _ _ (hHeld.2.2.2.2.2.2.2.2.2.2))).trans (hHeld.2.2.2.2.2.2.2.2.2.2)
                          refine ⟨_, rfl, ?_⟩
                          have n0_ := Aside0.mk (Kd.V_below (by (with_reducible repeat (first | apply Kd.V_alloc | apply Kd.V_drewN | apply Kd.V_drew)); exact HO_0.out) hb); have n1_ := Aside0.mk (Kd.R_below (by (with_reducible repeat (first | apply Kd.rA_ | apply Kd.rN_ | apply Kd.rD_)); exact HO_10.out) hb); have n2_ := Aside0.mk (blk_below (g := gb390) (o := .cells #[.int .i64 a2_0, .int .i64 a2_1, .int .i64 a2_2] 30 (0, 0)) (by (with_reducible repeat (first | refine bN_ ?_ _ | refine bD_ ?_ | refine bA_ ?_ _)); exact BK390.out) hb); have n3_ := Aside0.mk (blk_below (g := gb394) (o := .cells #[.int .i64 ((rd_T50 l1 x7_2).f1.f0), .int .i64 ((rd_T50 l1 x7_2).f1.f1), .int .i64 ((rd_T50 l1 x7_2).f1.f2), .int .i64 ((rd_T50 l1 x7_2).f1.f3)] 28 (0, 0)) (by (with_reducible repeat (first | refine bN_ ?_ _ | refine bD_ ?_ | refine bA_ ?_ _)); exact BK394.out) hb); have n4_ := Aside0.mk (below_step (by repeat (first | (with_reducible first | exact HB.out | apply lA_ | apply lN_ | apply lD_ | refine lS_ ?_ GE390.out | refine lS_ ?_ GE394.out) | exact HB.out)) hb); clear HO_0; clear HO_10; clear BK390; clear BK394; clear HB; have HO_0 := n0_; have HO_10 := n1_; have BK390 := n2_; have BK394 := n3_; have HB := n4_; clear n0_ n1_ n2_ n3_ n4_; (try clear hb); (try clear hb2); (try clear hk); (try clear hi); refine hK.out _ _ ⟨(blk_cell BK390.out 0).trans rfl, (blk_cell BK390.out 1).trans rfl, (blk_cell BK390.out 2).trans rfl, HS3_, HS4_, HS5_, HS6_, HS7_, HS8_, HS9_, HS10_⟩ (fun hHeld => ?_)
                          clear hK K; refine norm_ (a' := ?_) ?_ ?_
                          rotate_left
                          ·
                           show Act.put _ (some 140) _ = _
                           simp only [Act.put, List.setIfInBounds_toArray, List.set_cons_zero, List.set_cons_succ, i64_w, i32_w]; rfl
                          refine pu_ ?_ 44 (some 141) skiarealaw52_ClosureHeld.b44 rfl rfl HT_ (by kernel_rfl) (fun _ _ _ h => h) (by rfl) ?_ ?_ ?_ ?_; rotate_left; (intro w'; go_simp; with_reducible rfl); rotate_left; (simp only [Act.put, sA_, sB_, sC_, i64_w, i32_w]; rfl)
                          refine pu_ ?_ 45 (some 142) skiarealaw52_ClosureHeld.b45 rfl rfl HT_ (by kernel_rfl) (fun _ _ _ h => h) (by rfl) ?_ ?_ ?_ ?_; rotate_left; (intro w'; go_simp; with_reducible rfl); rotate_left; (simp only [Act.put, sA_, sB_, sC_, i64_w, i32_w]; rfl)
                          refine pu_ ?_ 46 (some 143) skiarealaw52_ClosureHeld.b46 rfl rfl HT_ (by kernel_rfl) (fun _ _ _ h => h) (by rfl) ?_ ?_ ?_ ?_; rotate_left; (intro w'; go_simp; with_reducible rfl); rotate_left; (simp only [Act.put, sA_, sB_, sC_, i64_w, i32_w]; rfl)
                          refine pu_ ?_ 47 (some 144) skiarealaw52_ClosureHeld.b47 rfl rfl HT_ (by kernel_rfl) (fun _ _ _ h => h) (by rfl) ?_ ?_ ?_ ?_; rotate_left; (intro w'; go_simp; with_reducible rfl); rotate_left; (simp only [Act.put, sA_, sB_, sC_, i64_w, i32_w]; rfl)
                          refine pu_ ?_ 48 (some 145) skiarealaw52_ClosureHeld.b48 rfl rfl HT_ (by kernel_rfl) (fun _ _ _ h => h) (by rfl) ?_ ?_ ?_ ?_; rotate_left; (intro w'; go_simp; with_reducible rfl); rotate_left; (simp only [Act.put, sA_, sB_, sC_, i64_w, i32_w]; rfl)
                          refine pu_ ?_ 50 (some 147) skiarealaw52_ClosureHeld.b49 rfl rfl HT_ (by kernel_rfl) (fun _ _ _ h => h) (by rfl) ?_ ?_ ?_ ?_; rotate_left; (intro w'; go_simp; with_reducible rfl); rotate_left; (simp only [Act.put, sA_, sB_, sC_, i64_w, i32_w]; rfl)
                          refine pu_ ?_ 53 (some 150) skiarealaw52_ClosureHeld.b50 rfl rfl HT_ (by kernel_rfl) (fun _ _ _ h => h) (by rfl) ?_ ?_ ?_ ?_; rotate_left; (intro w'; go_simp; with_reducible rfl); rotate_left; (simp only [Act.put, sA_, sB_, sC_, i64_w, i32_w]; rfl)
                          refine pu_ ?_ 56 (some 153) skiarealaw52_ClosureHeld.b51 rfl rfl HT_ (by kernel_rfl) (fun _ _ _ h => h) (by rfl) ?_ ?_ ?_ ?_; rotate_left; (intro w'; go_simp; with_reducible rfl); rotate_left; (simp only [Act.put, sA_, sB_, sC_, i64_w, i32_w]; rfl)
                          refine pu_ ?_ 57 (some 154) skiarealaw52_ClosureHeld.b52 rfl rfl HT_ (by kernel_rfl) (fun _ _ _ h => h) (by rfl) ?_ ?_ ?_ ?_; rotate_left; (intro w'; go_simp; with_reducible rfl); rotate_left; (simp only [Act.put, sA_, sB_, sC_, i64_w, i32_w]; rfl)
                          refine take_ (i := 49) (N := some 146) (v := ?_) (a' := ?_) skiarealaw52_ClosureHeld.b53 rfl rfl (take_ofW HT_.out HW_.out (by kernel_rfl)) (fun _ _ _ h => h) (Or.inl ⟨by rfl, ?_⟩) hHeld ?_ ?_
                          rotate_left
                          ·
                           rintro w' ⟨s0, s1, s2, s3, s4, s5, s6, s7, s8, s9, s10⟩; go_simp
                           with_reducible rfl
                          rotate_left
                          ·
                           simp only [Act.put, List.setIfInBounds_toArray, List.set_cons_zero, List.set_cons_succ, i64_w, i32_w]; rfl
                          refine take_ (i := 51) (N := some 148) (v := ?_) (a' := ?_) skiarealaw52_ClosureHeld.b54 rfl rfl (take_ofW HT_.out HW_.out (by kernel_rfl)) (fun _ _ _ h => h) (Or.inl ⟨by rfl, ?_⟩) hHeld ?_ ?_
                          rotate_left
                          ·
                           rintro w' ⟨s0, s1, s2, s3, s4, s5, s6, s7, s8, s9, s10⟩; go_simp
                           with_reducible rfl
                          rotate_left
                          ·
                           simp only [Act.put, List.setIfInBounds_toArray, List.set_cons_zero, List.set_cons_succ, i64_w, i32_w]; rfl
                          refine take_ (i := 54) (N := some 151) (v := ?_) (a' := ?_) skiarealaw52_ClosureHeld.b55 rfl rfl (take_ofW HT_.out HW_.out (by kernel_rfl)) (fun _ _ _ h => h) (Or.inl ⟨by rfl, ?_⟩) hHeld ?_ ?_
                          rotate_left
                          ·
                           rintro w' ⟨s0, s1, s2, s3, s4, s5, s6, s7, s8, s9, s10⟩; go_simp
                           with_reducible rfl
                          rotate_left
                          ·
                           simp only [Act.put, List.setIfInBounds_toArray, List.set_cons_zero, List.set_cons_succ, i64_w, i32_w]; rfl
                          refine one_ (i := 52) (N := some 149) skiarealaw52_ClosureHeld.b56 rfl rfl (one_of HT_.out (by kernel_rfl)) (by decide) (fun K hK => ?_)
                          refine goes_ Try.func20 (by kernel_rfl) rfl #[.slice (some ad427) x10_16.length co38, .int .i64 a2_0, .int .i64 a2_1] (by rfl) rfl rfl (by (try simp only [List.map_toArray, List.map_cons, List.map_nil]); first | done | rfl | (simp only [List.length_drop, List.length_take]; rfl)) ?_
                          with_reducible refine (closure_Of.calls kj34 _ _ x10_16 a2_0 a2_1 t429 _ ?side1 ?side2 A104.out).mono ?_
                          (case side1 => repeat (first | exact (Kd.R_reads' HO_10.out).2.2 | (with_reducible refine Kd.cA_ ?_ _) | (with_reducible refine Kd.cN_ ?_ _) | (with_reducible refine Kd.cD_ ?_))); (case side2 => exact (Kd.R_reads' HO_10.out).2.1); rintro e w109 ⟨v430, rfl, ho0, hb⟩; try have HS3_ := (hb.cell (World.block_lt_of_cell? _ _ (hHeld.2.2.2.1))).trans (hHeld.2.2.2.1)
                          try have HS4_ := (hb.cell (World.block_lt_of_cell? _ _ (hHeld.2.2.2.2.1))).trans (hHeld.2.2.2.2.1)
                          try have HS5_ := (hb.cell (World.block_lt_of_cell? _ _ (hHeld.2.2.2.2.2.1))).trans (hHeld.2.2.2.2.2.1)
                          try have HS6_ := (hb.cell (World.block_lt_of_cell? _ _ (hHeld.2.2.2.2.2.2.1))).trans (hHeld.2.2.2.2.2.2.1)
                          try have HS7_ := (hb.cell (World.block_lt_of_cell? _ _ (hHeld.2.2.2.2.2.2.2.1))).trans (hHeld.2.2.2.2.2.2.2.1)
                          try have HS8_ := (hb.cell (World.block_lt_of_cell? _ _ (hHeld.2.2.2.2.2.2.2.2.1))).trans (hHeld.2.2.2.2.2.2.2.2.1)
                          try have HS9_ := (hb.cell (World.block_lt_of_cell? _ _ (hHeld.2.2.2.2.2.2.2.2.2.1))).trans (hHeld.2.2.2.2.2.2.2.2.2.1)
                          try have HS10_ := (hb.cell (World.block_lt_of_cell? _ _ (hHeld.2.2.2.2.2.2.2.2.2.2))).trans (hHeld.2.2.2.2.2.2.2.2.2.2)
                          refine ⟨_, rfl, ?_⟩
                          have n0_ := Aside0.mk (Kd.V_elder' (by (with_reducible repeat (first | apply Kd.V_alloc | apply Kd.V_drewN | apply Kd.V_drew)); exact HO_0.out) (Kd.R_base ho0) hb); have n1_ := Aside0.mk (Kd.R_below (by (with_reducible repeat (first | apply Kd.rA_ | apply Kd.rN_ | apply Kd.rD_)); exact HO_10.out) hb); have n2_ := Aside0.mk (Kd.R_lower (Kd.R_newM (M := fun k_ => (w.heap.size ≤ k_)) ho0 (below_size (by repeat (first | (with_reducible first | exact HB.out | apply lA_ | apply lN_ | apply lD_ | refine lS_ ?_ GE390.out | refine lS_ ?_ GE394.out) | exact HB.out))) (fun k_ h_ => h_)) (below_size (by repeat (first | (with_reducible first | exact HB.out | apply lA_ | apply lN_ | apply lD_ | refine lS_ ?_ GE390.out | refine lS_ ?_ GE394.out) | exact HB.out)))); have n3_ := Aside0.mk (blk_below (g := gb390) (o := .cells #[.int .i64 a2_0, .int .i64 a2_1, .int .i64 a2_2] 30 (0, 0)) (by (with_reducible repeat (first | refine bN_ ?_ _ | refine bD_ ?_ | refine bA_ ?_ _)); exact BK390.out) hb); have n4_ := Aside0.mk (blk_below (g := gb394) (o := .cells #[.int .i64 ((rd_T50 l1 x7_2).f1.f0), .int .i64 ((rd_T50 l1 x7_2).f1.f1), .int .i64 ((rd_T50 l1 x7_2).f1.f2), .int .i64 ((rd_T50 l1 x7_2).f1.f3)] 28 (0, 0)) (by (with_reducible repeat (first | refine bN_ ?_ _ | refine bD_ ?_ | refine bA_ ?_ _)); exact BK394.out) hb); have n5_ := Aside0.mk (below_step (by repeat (first | (with_reducible first | exact HB.out | apply lA_ | apply lN_ | apply lD_ | refine lS_ ?_ GE390.out | refine lS_ ?_ GE394.out) | exact HB.out)) hb); clear HO_0; clear HO_10; clear BK390; clear BK394; clear HB; have HO_0 := n0_; have HO_10 := n1_; have HO431 := n2_; have BK390 := n3_; have BK394 := n4_; have HB := n5_; clear n0_ n1_ n2_ n3_ n4_ n5_; (try clear hb); (try clear hb2); (try clear hk); (try clear hi); (try clear ho0); obtain ⟨Ao110, co110, eo110⟩ := Kd.R_slice HO431.out; (first | subst eo110 | (injection eo110 with f1_ f2_ f3_; have f4_ := f1_.symm; have f5_ := f3_.symm; clear f1_ f2_ f3_; subst f4_; subst f5_))
                          refine hK.out _ _ ⟨(blk_cell BK390.out 0).trans rfl, (blk_cell BK390.out 1).trans rfl, (blk_cell BK390.out 2).trans rfl, HS3_, HS4_, HS5_, HS6_, HS7_, HS8_, HS9_, HS10_⟩ (fun hHeld => ?_)
                          clear hK K; refine norm_ (a' := ?_) ?_ ?_
                          rotate_left
                          ·
                           show Act.put _ (some 149) _ = _
                           simp only [Act.put, List.setIfInBounds_toArray, List.set_cons_zero, List.set_cons_succ, i64_w, i32_w]; rfl
                          refine one_ (i := 55) (N := some 152) skiarealaw52_ClosureHeld.b57 rfl rfl (one_of HT_.out (by kernel_rfl)) (by decide) (fun K hK => ?_)
                          refine goes_ Try.func27 (by kernel_rfl) rfl #[.slice Ao110 t429.length co110, .int .i64 a2_2] (by rfl) rfl rfl (by (try simp only [List.map_toArray, List.map_cons, List.map_nil]); first | done | rfl | (simp only [List.length_drop, List.length_take]; rfl)) ?_
                          with_reducible refine (skiarealaw52_has.calls kj34 _ _ t429 a2_2 t432 _ ?side1 ?side2 A105.out).mono ?_
                          (case side1 => repeat (first | exact (Kd.R_reads' HO431.out).2.2 | (with_reducible refine Kd.cA_ ?_ _) | (with_reducible refine Kd.cN_ ?_ _) | (with_reducible refine Kd.cD_ ?_))); (case side2 => exact (Kd.R_reads' HO431.out).2.1); rintro e w' ⟨rfl, ⟨nd, rfl⟩⟩; refine ⟨_, rfl, ?_⟩
                          refine hK.out _ _ ⟨(blk_cell BK390.out 0).trans rfl, (blk_cell BK390.out 1).trans rfl, (blk_cell BK390.out 2).trans rfl, hHeld.2.2.2.1, hHeld.2.2.2.2.1, hHeld.2.2.2.2.2.1, hHeld.2.2.2.2.2.2.1, hHeld.2.2.2.2.2.2.2.1, hHeld.2.2.2.2.2.2.2.2.1, hHeld.2.2.2.2.2.2.2.2.2.1, hHeld.2.2.2.2.2.2.2.2.2.2⟩ (fun hHeld => ?_)
                          clear hK K; refine norm_ (a' := ?_) ?_ ?_
                          rotate_left
                          ·
                           show Act.put _ (some 152) _ = _
                           simp only [Act.put, List.setIfInBounds_toArray, List.set_cons_zero, List.set_cons_succ, i64_w, i32_w]; rfl
                          refine pu_ ?_ 58 (some 155) skiarealaw52_ClosureHeld.b58 rfl rfl HT_ (by kernel_rfl) (fun _ _ _ h => h) (by rfl) ?_ ?_ ?_ ?_; rotate_left; (intro w'; go_simp; with_reducible rfl); rotate_left; (simp only [Act.put, sA_, sB_, sC_, i64_w, i32_w]; rfl)
                          refine pu_ ?_ 59 (some 156) skiarealaw52_ClosureHeld.b59 rfl rfl HT_ (by kernel_rfl) (fun _ _ _ h => h) (by rfl) ?_ ?_ ?_ ?_; rotate_left; (intro w'; go_simp; with_reducible rfl); rotate_left; (simp only [Act.put, sA_, sB_, sC_, i64_w, i32_w]; rfl)
                          refine done_ (done_of HT_.out (by kernel_rfl)) ?_
                          try go_wp2
                          go_roundg kj34
                          case measure => have := HJ5.out; have := HK2.out; have := HJ16.out; have := HJ34.out; omega
                          case rel => exact ⟨(x10_16), (wrap64 (x7_2 + 1)), (by first | rfl | (simp; done) | (simp [*]; done)), H', ⟨by have := HJ5.out; have := HK2.out; have := HJ16.out; have := HJ34.out; omega⟩, ⟨Kd.R_V (by (with_reducible repeat (first | apply Kd.rA_ | apply Kd.rN_ | apply Kd.rD_)); exact Kd.R_mono (Kd.R_types HO_10.out BK390.out (by decide)) (fun k_ hk => ⟨.inr hk.1.1, hk.2⟩))⟩, ⟨by (with_reducible repeat (first | refine bN_ ?_ _ | refine bD_ ?_ | refine bA_ ?_ _)); exact BK390.out⟩, ⟨by repeat (first | (with_reducible first | exact HB.out | apply lA_ | apply lN_ | apply lD_ | refine lS_ ?_ GE390.out | refine lS_ ?_ GE394.out) | exact HB.out)⟩⟩
                       ·
                        rw [if_neg c103] at H
                        have c103b0 : (t428 == 0) = false := beq_eq_false_iff_ne.mpr c103; have c103b1 : (t428 != 0) = true := bne_iff_ne.mpr c103
                        exact absurd H (by simp)
                     ·
                      rw [if_neg c100] at H
                      exact absurd H (by simp)
                    ·
                     rw [if_neg c99] at H
                     exact absurd H (by simp)
                   ·
                    rw [if_neg c98] at H
                    exact absurd H (by simp)
                  ·
                   rw [if_neg c97] at H
                   exact absurd H (by simp)
                 ·
                  rw [if_neg c96] at H
                  have c96b0 : decide (0 ≤ t405) = false := decide_eq_false c96; clear c96; replace H := Option.bind_eq_some_iff.mp H; obtain ⟨t433, A1110, H⟩ := H; replace H : (if t433 = 0 then ((closure_Of.f kj34 x10_16 a2_0 a2_1).bind fun t434 => ((skiarealaw52_has.f kj34 t434 a2_2).bind fun t437 => (if (t437 != (decide (t405 ≥ 0))) = true then (none) else (skiarealaw52_ClosureHeld.l0 kj34 x10_16 l1 (wrap64 (x7_2 + 1)) a2_0 a2_1 a2_2)))) else (none)) = some r := H; have A111 := Aside0.mk A1110; clear A1110; by_cases c112 : t433 = 0
                  ·
                   rw [if_pos c112] at H
                   have c112b0 : (t433 == 0) = true := beq_iff_eq.mpr c112; have c112b1 : (t433 != 0) = false := bne_eq_false_iff_eq.mpr c112; clear c112; replace H := Option.bind_eq_some_iff.mp H; obtain ⟨t434, A1130, H⟩ := H; replace H : ((skiarealaw52_has.f kj34 t434 a2_2).bind fun t437 => (if (t437 != (decide (t405 ≥ 0))) = true then (none) else (skiarealaw52_ClosureHeld.l0 kj34 x10_16 l1 (wrap64 (x7_2 + 1)) a2_0 a2_1 a2_2))) = some r := H; have A113 := Aside0.mk A1130; clear A1130; replace H := Option.bind_eq_some_iff.mp H; obtain ⟨t437, A1140, H⟩ := H; replace H : (if (t437 != (decide (t405 ≥ 0))) = true then (none) else (skiarealaw52_ClosureHeld.l0 kj34 x10_16 l1 (wrap64 (x7_2 + 1)) a2_0 a2_1 a2_2)) = some r := H; have A114 := Aside0.mk A1140; clear A1140; by_cases c115 : (t437 != (decide (t405 ≥ 0))) = true
                   ·
                    rw [if_pos c115] at H
                    exact absurd H (by simp)
                   ·
                    rw [if_neg c115] at H
                    have c115b0 : (t437 != (decide (t405 ≥ 0))) = false := by simpa using c115
                    (first | (have c115z : t437 = true := (bne_eq_false_iff_eq.1 c115b0).trans (decide_eq_true (of_decide_eq_true (show decide (0 ≤ t405) = true by assumption)))) | (have c115z : t437 = false := (bne_eq_false_iff_eq.1 c115b0).trans (decide_eq_false (of_decide_eq_false (show decide (0 ≤ t405) = false by assumption)))) | skip)
                    (try (have c115b1 : decide (t437 = (decide (t405 ≥ 0))) = true := by simpa using c115))
                    (try (have c115b2 : (t437 == (decide (t405 ≥ 0))) = true := by simpa using c115))
                    clear c115; have H' := Aside0.mk H; clear H; try go_wp2
                    have n0_ := Aside0.mk (Kd.V_drew HO_0.out); have n1_ := Aside0.mk (Kd.rD_ HO_10.out); have n2_ := Aside0.mk (bD_ BK390.out); have n3_ := Aside0.mk (bD_ BK394.out); have n4_ := Aside0.mk (lD_ HB.out); clear HO_0; clear HO_10; clear BK390; clear BK394; clear HB; have HO_0 := n0_; have HO_10 := n1_; have BK390 := n2_; have BK394 := n3_; have HB := n4_; clear n0_ n1_ n2_ n3_ n4_
                    as_aux_lemma =>
                     refine start_ (n := 60) (S := fun w' => w'.cell? ⟨gb390, 0, none⟩ = some (.int .i64 a2_0) ∧ w'.cell? ⟨gb390, 1, none⟩ = some (.int .i64 a2_1) ∧ w'.cell? ⟨gb390, 2, none⟩ = some (.int .i64 a2_2)) (ds := []) #[false, false, false, false, false, false, false, false, false, false, false, false, false, false, false, false, false, false, false, false, false, false, false, false, false, false, false, false, false, false, false, false, false, false, false, false, false, false, false, false, false, false, false, false, false, false, false, false, false, false, false, false, false, false, false, false, false, false, false, false] (by kernel_rfl) rfl rfl ⟨(blk_cell BK390.out 0).trans rfl, (blk_cell BK390.out 1).trans rfl, (blk_cell BK390.out 2).trans rfl⟩ (fun hHeld => ?_); refine with_tabW skiarealaw52_ClosureHeld.tab20 skiarealaw52_ClosureHeld.bits20 (fun HT_ HW_ => ?_)
                     generalize wc.drew = w116 at HO_0 HO_10 BK390 BK394 HB hHeld ⊢
                     refine pu_ ?_ 0 (some 97) skiarealaw52_ClosureHeld.b0 rfl rfl HT_ (by kernel_rfl) (fun _ _ _ h => h) (by rfl) ?_ ?_ ?_ ?_; rotate_left; (intro w'; go_simp; with_reducible rfl); rotate_left; (simp only [Act.put, sA_, sB_, sC_, i64_w, i32_w]; rfl)
                     refine pu_ ?_ 1 (some 98) skiarealaw52_ClosureHeld.b1 rfl rfl HT_ (by kernel_rfl) (fun _ _ _ h => h) (by rfl) ?_ ?_ ?_ ?_; rotate_left; (intro w'; go_simp; with_reducible rfl); rotate_left; (simp only [Act.put, sA_, sB_, sC_, i64_w, i32_w]; rfl)
                     refine pu_ ?_ 2 (some 99) skiarealaw52_ClosureHeld.b2 rfl rfl HT_ (by kernel_rfl) (fun _ _ _ h => h) (by rfl) ?_ ?_ ?_ ?_; rotate_left; (intro w'; go_simp; with_reducible rfl); rotate_left; (simp only [Act.put, sA_, sB_, sC_, i64_w, i32_w]; rfl)
                     refine pu_ ?_ 3 (some 100) skiarealaw52_ClosureHeld.b3 rfl rfl HT_ (by kernel_rfl) (fun _ _ _ h => h) (by rfl) ?_ ?_ ?_ ?_; rotate_left; (intro w'; go_simp; with_reducible rfl); rotate_left; (simp only [Act.put, sA_, sB_, sC_, i64_w, i32_w]; rfl)
                     refine pu_ ?_ 4 (some 101) skiarealaw52_ClosureHeld.b4 rfl rfl HT_ (by kernel_rfl) (fun _ _ _ h => h) (by rfl) ?_ ?_ ?_ ?_; rotate_left; (intro w'; go_simp; with_reducible rfl); rotate_left; (simp only [Act.put, sA_, sB_, sC_, i64_w, i32_w]; rfl)
                     refine pu_ ?_ 5 (some 102) skiarealaw52_ClosureHeld.b5 rfl rfl HT_ (by kernel_rfl) (fun _ _ _ h => h) (by rfl) ?_ ?_ ?_ ?_; rotate_left; (intro w'; go_simp; with_reducible rfl); rotate_left; (simp only [Act.put, sA_, sB_, sC_, i64_w, i32_w]; rfl)
                     refine pu_ ?_ 6 (some 103) skiarealaw52_ClosureHeld.b6 rfl rfl HT_ (by kernel_rfl) (fun _ _ _ h => h) (by rfl) ?_ ?_ ?_ ?_; rotate_left; (intro w'; go_simp; with_reducible rfl); rotate_left; (simp only [Act.put, sA_, sB_, sC_, i64_w, i32_w]; rfl)
                     refine pu_ ?_ 7 (some 104) skiarealaw52_ClosureHeld.b7 rfl rfl HT_ (by kernel_rfl) (fun _ _ _ h => h) (by rfl) ?_ ?_ ?_ ?_; rotate_left; (intro w'; go_simp; with_reducible rfl); rotate_left; (simp only [Act.put, sA_, sB_, sC_, i64_w, i32_w]; rfl)
                     refine pu_ ?_ 8 (some 105) skiarealaw52_ClosureHeld.b8 rfl rfl HT_ (by kernel_rfl) (fun _ _ _ h => h) (by rfl) ?_ ?_ ?_ ?_; rotate_left; (intro w'; go_simp; with_reducible rfl); rotate_left; (simp only [Act.put, sA_, sB_, sC_, i64_w, i32_w]; rfl)
                     refine pu_ ?_ 9 (some 106) skiarealaw52_ClosureHeld.b9 rfl rfl HT_ (by kernel_rfl) (fun _ _ _ h => h) (by rfl) ?_ ?_ ?_ ?_; rotate_left; (intro w'; go_simp; with_reducible rfl); rotate_left; (simp only [Act.put, sA_, sB_, sC_, i64_w, i32_w]; rfl)
                     refine pu_ ?_ 10 (some 107) skiarealaw52_ClosureHeld.b10 rfl rfl HT_ (by kernel_rfl) (fun _ _ _ h => h) (by rfl) ?_ ?_ ?_ ?_; rotate_left; (intro w'; go_simp; with_reducible rfl); rotate_left; (simp only [Act.put, sA_, sB_, sC_, i64_w, i32_w]; rfl)
                     refine pu_ ?_ 11 (some 108) skiarealaw52_ClosureHeld.b11 rfl rfl HT_ (by kernel_rfl) (fun _ _ _ h => h) (by rfl) ?_ ?_ ?_ ?_; rotate_left; (intro w'; go_simp; with_reducible rfl); rotate_left; (simp only [Act.put, sA_, sB_, sC_, i64_w, i32_w]; rfl)
                     refine pu_ ?_ 12 (some 109) skiarealaw52_ClosureHeld.b12 rfl rfl HT_ (by kernel_rfl) (fun _ _ _ h => h) (by rfl) ?_ ?_ ?_ ?_; rotate_left; (intro w'; go_simp; with_reducible rfl); rotate_left; (simp only [Act.put, sA_, sB_, sC_, i64_w, i32_w]; rfl)
                     refine pu_ ?_ 13 (some 110) skiarealaw52_ClosureHeld.b13 rfl rfl HT_ (by kernel_rfl) (fun _ _ _ h => h) (by rfl) ?_ ?_ ?_ ?_; rotate_left; (intro w'; go_simp; with_reducible rfl); rotate_left; (simp only [Act.put, sA_, sB_, sC_, i64_w, i32_w]; rfl)
                     refine pu_ ?_ 14 (some 111) skiarealaw52_ClosureHeld.b14 rfl rfl HT_ (by kernel_rfl) (fun _ _ _ h => h) (by rfl) ?_ ?_ ?_ ?_; rotate_left; (intro w'; go_simp; with_reducible rfl); rotate_left; (simp only [Act.put, sA_, sB_, sC_, i64_w, i32_w]; rfl)
                     refine pu_ ?_ 15 (some 112) skiarealaw52_ClosureHeld.b15 rfl rfl HT_ (by kernel_rfl) (fun _ _ _ h => h) (by rfl) ?_ ?_ ?_ ?_; rotate_left; (intro w'; go_simp; with_reducible rfl); rotate_left; (simp only [Act.put, sA_, sB_, sC_, i64_w, i32_w]; rfl)
                     refine pu_ ?_ 16 (some 113) skiarealaw52_ClosureHeld.b16 rfl rfl HT_ (by kernel_rfl) (fun _ _ _ h => h) (by rfl) ?_ ?_ ?_ ?_; rotate_left; (intro w'; go_simp; with_reducible rfl); rotate_left; (simp only [Act.put, sA_, sB_, sC_, i64_w, i32_w]; rfl)
                     refine pn_ ?_ 17 (some 114) skiarealaw52_ClosureHeld.b17 rfl rfl HT_ (by kernel_rfl) (fun _ _ _ h => h) (by rfl) ?_ ?_; rotate_left; (simp only [Act.put, sA_, sB_, sC_, i64_w, i32_w]; rfl)
                     refine pn_ ?_ 18 (some 115) skiarealaw52_ClosureHeld.b18 rfl rfl HT_ (by kernel_rfl) (fun _ _ _ h => h) (by rfl) ?_ ?_; rotate_left; (simp only [Act.put, sA_, sB_, sC_, i64_w, i32_w]; rfl)
                     refine pn_ ?_ 19 (some 116) skiarealaw52_ClosureHeld.b19 rfl rfl HT_ (by kernel_rfl) (fun _ _ _ h => h) (by rfl) ?_ ?_; rotate_left; (simp only [Act.put, sA_, sB_, sC_, i64_w, i32_w]; rfl)
                     refine pn_ ?_ 20 (some 117) skiarealaw52_ClosureHeld.b60 rfl rfl HT_ (by kernel_rfl) (fun _ _ _ h => h) (by rfl) ?_ ?_; rotate_left; (simp only [Act.put, sA_, sB_, sC_, i64_w, i32_w]; rfl)
                     refine pn_ ?_ 21 (some 118) skiarealaw52_ClosureHeld.b61 rfl rfl HT_ (by kernel_rfl) (fun _ _ _ h => h) (by rfl) ?_ ?_; rotate_left; (simp only [Act.put, sA_, sB_, sC_, i64_w, i32_w]; rfl)
                     refine pn_ ?_ 22 (some 119) skiarealaw52_ClosureHeld.b62 rfl rfl HT_ (by kernel_rfl) (fun _ _ _ h => h) (by rfl) ?_ ?_; rotate_left; (simp only [Act.put, sA_, sB_, sC_, i64_w, i32_w]; rfl)
                     refine pn_ ?_ 23 (some 120) skiarealaw52_ClosureHeld.b23 rfl rfl HT_ (by kernel_rfl) (fun _ _ _ h => h) (by rfl) ?_ ?_; rotate_left; (simp only [Act.put, sA_, sB_, sC_, i64_w, i32_w]; rfl)
                     refine pn_ ?_ 24 (some 121) skiarealaw52_ClosureHeld.b24 rfl rfl HT_ (by kernel_rfl) (fun _ _ _ h => h) (by rfl) ?_ ?_; rotate_left; (simp only [Act.put, sA_, sB_, sC_, i64_w, i32_w]; rfl)
                     refine pn_ ?_ 25 (some 122) skiarealaw52_ClosureHeld.b25 rfl rfl HT_ (by kernel_rfl) (fun _ _ _ h => h) (by rfl) ?_ ?_; rotate_left; (simp only [Act.put, sA_, sB_, sC_, i64_w, i32_w]; rfl)
                     refine pu_ ?_ 26 (some 123) skiarealaw52_ClosureHeld.b26 rfl rfl HT_ (by kernel_rfl) (fun _ _ _ h => h) (by rfl) ?_ ?_ ?_ ?_; rotate_left; (intro w'; go_simp; with_reducible rfl); rotate_left; (simp only [Act.put, sA_, sB_, sC_, i64_w, i32_w]; rfl)
                     refine pu_ ?_ 27 (some 124) skiarealaw52_ClosureHeld.b27 rfl rfl HT_ (by kernel_rfl) (fun _ _ _ h => h) (by rfl) ?_ ?_ ?_ ?_; rotate_left; (intro w'; go_simp; with_reducible rfl); rotate_left; (simp only [Act.put, sA_, sB_, sC_, i64_w, i32_w]; rfl)
                     refine pu_ ?_ 28 (some 125) skiarealaw52_ClosureHeld.b28 rfl rfl HT_ (by kernel_rfl) (fun _ _ _ h => h) (by rfl) ?_ ?_ ?_ ?_; rotate_left; (intro w'; go_simp; with_reducible rfl); rotate_left; (simp only [Act.put, sA_, sB_, sC_, i64_w, i32_w]; rfl)
                     refine pu_ ?_ 29 (some 126) skiarealaw52_ClosureHeld.b29 rfl rfl HT_ (by kernel_rfl) (fun _ _ _ h => h) (by rfl) ?_ ?_ ?_ ?_; rotate_left; (intro w'; go_simp; with_reducible rfl); rotate_left; (simp only [Act.put, sA_, sB_, sC_, i64_w, i32_w]; rfl)
                     refine pu_ ?_ 30 (some 127) skiarealaw52_ClosureHeld.b30 rfl rfl HT_ (by kernel_rfl) (fun _ _ _ h => h) (by rfl) ?_ ?_ ?_ ?_; rotate_left; (intro w'; go_simp; with_reducible rfl); rotate_left; (simp only [Act.put, sA_, sB_, sC_, i64_w, i32_w]; rfl)
                     refine pn_ ?_ 31 (some 128) skiarealaw52_ClosureHeld.b31 rfl rfl HT_ (by kernel_rfl) (fun _ _ _ h => h) (by rfl) ?_ ?_; rotate_left; (simp only [Act.put, sA_, sB_, sC_, i64_w, i32_w]; rfl)
                     refine pn_ ?_ 32 (some 129) skiarealaw52_ClosureHeld.b32 rfl rfl HT_ (by kernel_rfl) (fun _ _ _ h => h) (by rfl) ?_ ?_; rotate_left; (simp only [Act.put, sA_, sB_, sC_, i64_w, i32_w]; rfl)
                     refine pn_ ?_ 33 (some 130) skiarealaw52_ClosureHeld.b33 rfl rfl HT_ (by kernel_rfl) (fun _ _ _ h => h) (by rfl) ?_ ?_; rotate_left; (simp only [Act.put, sA_, sB_, sC_, i64_w, i32_w]; rfl)
                     refine pn_ ?_ 34 (some 131) skiarealaw52_ClosureHeld.b34 rfl rfl HT_ (by kernel_rfl) (fun _ _ _ h => h) (by rfl) ?_ ?_; rotate_left; (simp only [Act.put, sA_, sB_, sC_, i64_w, i32_w]; rfl)
                     refine pn_ ?_ 35 (some 132) skiarealaw52_ClosureHeld.b63 rfl rfl HT_ (by kernel_rfl) (fun _ _ _ h => h) (by rfl) ?_ ?_; rotate_left; (simp only [Act.put, sA_, sB_, sC_, i64_w, i32_w]; rfl)
                     refine pn_ ?_ 36 (some 133) skiarealaw52_ClosureHeld.b64 rfl rfl HT_ (by kernel_rfl) (fun _ _ _ h => h) (by rfl) ?_ ?_; rotate_left; (simp only [Act.put, sA_, sB_, sC_, i64_w, i32_w]; rfl)
                     refine pn_ ?_ 37 (some 134) skiarealaw52_ClosureHeld.b37 rfl rfl HT_ (by kernel_rfl) (fun _ _ _ h => h) (by rfl) ?_ ?_; rotate_left; (simp only [Act.put, sA_, sB_, sC_, i64_w, i32_w]; rfl)
                     refine pn_ ?_ 38 (some 135) skiarealaw52_ClosureHeld.b38 rfl rfl HT_ (by kernel_rfl) (fun _ _ _ h => h) (by rfl) ?_ ?_; rotate_left; (simp only [Act.put, sA_, sB_, sC_, i64_w, i32_w]; rfl)
                     refine pu_ ?_ 39 (some 136) skiarealaw52_ClosureHeld.b39 rfl rfl HT_ (by kernel_rfl) (fun _ _ _ h => h) (by rfl) ?_ ?_ ?_ ?_; rotate_left; (intro w'; go_simp; with_reducible rfl); rotate_left; (simp only [Act.put, sA_, sB_, sC_, i64_w, i32_w]; rfl)
                     refine pu_ ?_ 40 (some 137) skiarealaw52_ClosureHeld.b40 rfl rfl HT_ (by kernel_rfl) (fun _ _ _ h => h) (by rfl) ?_ ?_ ?_ ?_; rotate_left; (intro w'; go_simp; with_reducible rfl); rotate_left; (simp only [Act.put, sA_, sB_, sC_, i64_w, i32_w]; rfl)
                     refine pu_ ?_ 41 (some 138) skiarealaw52_ClosureHeld.b41 rfl rfl HT_ (by kernel_rfl) (fun _ _ _ h => h) (by rfl) ?_ ?_ ?_ ?_; rotate_left; (intro w'; go_simp; with_reducible rfl); rotate_left; (simp only [Act.put, sA_, sB_, sC_, i64_w, i32_w]; rfl)
                     refine pu_ ?_ 42 (some 139) skiarealaw52_ClosureHeld.b42 rfl rfl HT_ (by kernel_rfl) (fun _ _ _ h => h) (by rfl) ?_ ?_ ?_ ?_; rotate_left; (intro w'; go_simp; with_reducible rfl); rotate_left; (simp only [Act.put, sA_, sB_, sC_, i64_w, i32_w]; rfl)
                     refine one_ (i := 43) (N := some 140) skiarealaw52_ClosureHeld.b43 rfl rfl (one_of HT_.out (by kernel_rfl)) (by decide) (fun K hK => ?_)
                     refine goes_ Try.func10 (by kernel_rfl) rfl #[.slice Ao38 x10_16.length co38] (by rfl) rfl rfl (by (try simp only [List.map_toArray, List.map_cons, List.map_nil]); first | done | rfl | (simp only [List.length_drop, List.length_take]; rfl)) ?_
                     with_reducible refine (closure_Right.calls kj34 _ _ x10_16 t433 _ ?side1 ?side2 A111.out).mono ?_
                     (case side1 => repeat (first | exact (Kd.R_reads' HO_10.out).2.2 | (with_reducible refine Kd.cA_ ?_ _) | (with_reducible refine Kd.cN_ ?_ _) | (with_reducible refine Kd.cD_ ?_))); (case side2 => exact (Kd.R_reads' HO_10.out).2.1); rintro e w117 ⟨rfl, hb⟩; refine ⟨_, rfl, ?_⟩
                     have n0_ := Aside0.mk (Kd.V_below (by (with_reducible repeat (first | apply Kd.V_alloc | apply Kd.V_drewN | apply Kd.V_drew)); exact HO_0.out) hb); have n1_ := Aside0.mk (Kd.R_below (by (with_reducible repeat (first | apply Kd.rA_ | apply Kd.rN_ | apply Kd.rD_)); exact HO_10.out) hb); have n2_ := Aside0.mk (blk_below (g := gb390) (o := .cells #[.int .i64 a2_0, .int .i64 a2_1, .int .i64 a2_2] 30 (0, 0)) (by (with_reducible repeat (first | refine bN_ ?_ _ | refine bD_ ?_ | refine bA_ ?_ _)); exact BK390.out) hb); have n3_ := Aside0.mk (blk_below (g := gb394) (o := .cells #[.int .i64 ((rd_T50 l1 x7_2).f1.f0), .int .i64 ((rd_T50 l1 x7_2).f1.f1), .int .i64 ((rd_T50 l1 x7_2).f1.f2), .int .i64 ((rd_T50 l1 x7_2).f1.f3)] 28 (0, 0)) (by (with_reducible repeat (first | refine bN_ ?_ _ | refine bD_ ?_ | refine bA_ ?_ _)); exact BK394.out) hb); have n4_ := Aside0.mk (below_step (by repeat (first | (with_reducible first | exact HB.out | apply lA_ | apply lN_ | apply lD_ | refine lS_ ?_ GE390.out | refine lS_ ?_ GE394.out) | exact HB.out)) hb); clear HO_0; clear HO_10; clear BK390; clear BK394; clear HB; have HO_0 := n0_; have HO_10 := n1_; have BK390 := n2_; have BK394 := n3_; have HB := n4_; clear n0_ n1_ n2_ n3_ n4_; (try clear hb); (try clear hb2); (try clear hk); (try clear hi); refine hK.out _ _ ⟨(blk_cell BK390.out 0).trans rfl, (blk_cell BK390.out 1).trans rfl, (blk_cell BK390.out 2).trans rfl⟩ (fun hHeld => ?_)
                     clear hK K; refine norm_ (a' := ?_) ?_ ?_
                     rotate_left
                     ·
                      show Act.put _ (some 140) _ = _
                      simp only [Act.put, List.setIfInBounds_toArray, List.set_cons_zero, List.set_cons_succ, i64_w, i32_w]; rfl
                     refine pu_ ?_ 44 (some 141) skiarealaw52_ClosureHeld.b44 rfl rfl HT_ (by kernel_rfl) (fun _ _ _ h => h) (by rfl) ?_ ?_ ?_ ?_; rotate_left; (intro w'; go_simp; with_reducible rfl); rotate_left; (simp only [Act.put, sA_, sB_, sC_, i64_w, i32_w]; rfl)
                     refine pu_ ?_ 45 (some 142) skiarealaw52_ClosureHeld.b45 rfl rfl HT_ (by kernel_rfl) (fun _ _ _ h => h) (by rfl) ?_ ?_ ?_ ?_; rotate_left; (intro w'; go_simp; with_reducible rfl); rotate_left; (simp only [Act.put, sA_, sB_, sC_, i64_w, i32_w]; rfl)
                     refine pu_ ?_ 46 (some 143) skiarealaw52_ClosureHeld.b46 rfl rfl HT_ (by kernel_rfl) (fun _ _ _ h => h) (by rfl) ?_ ?_ ?_ ?_; rotate_left; (intro w'; go_simp; with_reducible rfl); rotate_left; (simp only [Act.put, sA_, sB_, sC_, i64_w, i32_w]; rfl)
                     refine pu_ ?_ 47 (some 144) skiarealaw52_ClosureHeld.b47 rfl rfl HT_ (by kernel_rfl) (fun _ _ _ h => h) (by rfl) ?_ ?_ ?_ ?_; rotate_left; (intro w'; go_simp; with_reducible rfl); rotate_left; (simp only [Act.put, sA_, sB_, sC_, i64_w, i32_w]; rfl)
                     refine pu_ ?_ 48 (some 145) skiarealaw52_ClosureHeld.b48 rfl rfl HT_ (by kernel_rfl) (fun _ _ _ h => h) (by rfl) ?_ ?_ ?_ ?_; rotate_left; (intro w'; go_simp; with_reducible rfl); rotate_left; (simp only [Act.put, sA_, sB_, sC_, i64_w, i32_w]; rfl)
                     refine pu_ ?_ 50 (some 147) skiarealaw52_ClosureHeld.b49 rfl rfl HT_ (by kernel_rfl) (fun _ _ _ h => h) (by rfl) ?_ ?_ ?_ ?_; rotate_left; (intro w'; go_simp; with_reducible rfl); rotate_left; (simp only [Act.put, sA_, sB_, sC_, i64_w, i32_w]; rfl)
                     refine pu_ ?_ 53 (some 150) skiarealaw52_ClosureHeld.b50 rfl rfl HT_ (by kernel_rfl) (fun _ _ _ h => h) (by rfl) ?_ ?_ ?_ ?_; rotate_left; (intro w'; go_simp; with_reducible rfl); rotate_left; (simp only [Act.put, sA_, sB_, sC_, i64_w, i32_w]; rfl)
                     refine pu_ ?_ 56 (some 153) skiarealaw52_ClosureHeld.b51 rfl rfl HT_ (by kernel_rfl) (fun _ _ _ h => h) (by rfl) ?_ ?_ ?_ ?_; rotate_left; (intro w'; go_simp; with_reducible rfl); rotate_left; (simp only [Act.put, sA_, sB_, sC_, i64_w, i32_w]; rfl)
                     refine pu_ ?_ 57 (some 154) skiarealaw52_ClosureHeld.b52 rfl rfl HT_ (by kernel_rfl) (fun _ _ _ h => h) (by rfl) ?_ ?_ ?_ ?_; rotate_left; (intro w'; go_simp; with_reducible rfl); rotate_left; (simp only [Act.put, sA_, sB_, sC_, i64_w, i32_w]; rfl)
                     refine take_ (i := 49) (N := some 146) (v := ?_) (a' := ?_) skiarealaw52_ClosureHeld.b53 rfl rfl (take_ofW HT_.out HW_.out (by kernel_rfl)) (fun _ _ _ h => h) (Or.inl ⟨by rfl, ?_⟩) hHeld ?_ ?_
                     rotate_left
                     ·
                      rintro w' ⟨s0, s1, s2⟩; go_simp
                      with_reducible rfl
                     rotate_left
                     ·
                      simp only [Act.put, List.setIfInBounds_toArray, List.set_cons_zero, List.set_cons_succ, i64_w, i32_w]; rfl
                     refine take_ (i := 51) (N := some 148) (v := ?_) (a' := ?_) skiarealaw52_ClosureHeld.b54 rfl rfl (take_ofW HT_.out HW_.out (by kernel_rfl)) (fun _ _ _ h => h) (Or.inl ⟨by rfl, ?_⟩) hHeld ?_ ?_
                     rotate_left
                     ·
                      rintro w' ⟨s0, s1, s2⟩; go_simp
                      with_reducible rfl
                     rotate_left
                     ·
                      simp only [Act.put, List.setIfInBounds_toArray, List.set_cons_zero, List.set_cons_succ, i64_w, i32_w]; rfl
                     refine take_ (i := 54) (N := some 151) (v := ?_) (a' := ?_) skiarealaw52_ClosureHeld.b55 rfl rfl (take_ofW HT_.out HW_.out (by kernel_rfl)) (fun _ _ _ h => h) (Or.inl ⟨by rfl, ?_⟩) hHeld ?_ ?_
                     rotate_left
                     ·
                      rintro w' ⟨s0, s1, s2⟩; go_simp
                      with_reducible rfl
                     rotate_left
                     ·
                      simp only [Act.put, List.setIfInBounds_toArray, List.set_cons_zero, List.set_cons_succ, i64_w, i32_w]; rfl
                     refine one_ (i := 52) (N := some 149) skiarealaw52_ClosureHeld.b56 rfl rfl (one_of HT_.out (by kernel_rfl)) (by decide) (fun K hK => ?_)
                     refine goes_ Try.func20 (by kernel_rfl) rfl #[.slice Ao38 x10_16.length co38, .int .i64 a2_0, .int .i64 a2_1] (by rfl) rfl rfl (by (try simp only [List.map_toArray, List.map_cons, List.map_nil]); first | done | rfl | (simp only [List.length_drop, List.length_take]; rfl)) ?_
                     with_reducible refine (closure_Of.calls kj34 _ _ x10_16 a2_0 a2_1 t434 _ ?side1 ?side2 A113.out).mono ?_
                     (case side1 => repeat (first | exact (Kd.R_reads' HO_10.out).2.2 | (with_reducible refine Kd.cA_ ?_ _) | (with_reducible refine Kd.cN_ ?_ _) | (with_reducible refine Kd.cD_ ?_))); (case side2 => exact (Kd.R_reads' HO_10.out).2.1); rintro e w118 ⟨v435, rfl, ho0, hb⟩; refine ⟨_, rfl, ?_⟩
                     have n0_ := Aside0.mk (Kd.V_elder' (by (with_reducible repeat (first | apply Kd.V_alloc | apply Kd.V_drewN | apply Kd.V_drew)); exact HO_0.out) (Kd.R_base ho0) hb); have n1_ := Aside0.mk (Kd.R_below (by (with_reducible repeat (first | apply Kd.rA_ | apply Kd.rN_ | apply Kd.rD_)); exact HO_10.out) hb); have n2_ := Aside0.mk (Kd.R_lower (Kd.R_newM (M := fun k_ => (w.heap.size ≤ k_)) ho0 (below_size (by repeat (first | (with_reducible first | exact HB.out | apply lA_ | apply lN_ | apply lD_ | refine lS_ ?_ GE390.out | refine lS_ ?_ GE394.out) | exact HB.out))) (fun k_ h_ => h_)) (below_size (by repeat (first | (with_reducible first | exact HB.out | apply lA_ | apply lN_ | apply lD_ | refine lS_ ?_ GE390.out | refine lS_ ?_ GE394.out) | exact HB.out)))); have n3_ := Aside0.mk (blk_below (g := gb390) (o := .cells #[.int .i64 a2_0, .int .i64 a2_1, .int .i64 a2_2] 30 (0, 0)) (by (with_reducible repeat (first | refine bN_ ?_ _ | refine bD_ ?_ | refine bA_ ?_ _)); exact BK390.out) hb); have n4_ := Aside0.mk (blk_below (g := gb394) (o := .cells #[.int .i64 ((rd_T50 l1 x7_2).f1.f0), .int .i64 ((rd_T50 l1 x7_2).f1.f1), .int .i64 ((rd_T50 l1 x7_2).f1.f2), .int .i64 ((rd_T50 l1 x7_2).f1.f3)] 28 (0, 0)) (by (with_reducible repeat (first | refine bN_ ?_ _ | refine bD_ ?_ | refine bA_ ?_ _)); exact BK394.out) hb); have n5_ := Aside0.mk (below_step (by repeat (first | (with_reducible first | exact HB.out | apply lA_ | apply lN_ | apply lD_ | refine lS_ ?_ GE390.out | refine lS_ ?_ GE394.out) | exact HB.out)) hb); clear HO_0; clear HO_10; clear BK390; clear BK394; clear HB; have HO_0 := n0_; have HO_10 := n1_; have HO436 := n2_; have BK390 := n3_; have BK394 := n4_; have HB := n5_; clear n0_ n1_ n2_ n3_ n4_ n5_; (try clear hb); (try clear hb2); (try clear hk); (try clear hi); (try clear ho0); obtain ⟨Ao119, co119, eo119⟩ := Kd.R_slice HO436.out; (first | subst eo119 | (injection eo119 with f1_ f2_ f3_; have f4_ := f1_.symm; have f5_ := f3_.symm; clear f1_ f2_ f3_; subst f4_; subst f5_))
                     refine hK.out _ _ ⟨(blk_cell BK390.out 0).trans rfl, (blk_cell BK390.out 1).trans rfl, (blk_cell BK390.out 2).trans rfl⟩ (fun hHeld => ?_)
                     clear hK K; refine norm_ (a' := ?_) ?_ ?_
                     rotate_left
                     ·
                      show Act.put _ (some 149) _ = _
                      simp only [Act.put, List.setIfInBounds_toArray, List.set_cons_zero, List.set_cons_succ, i64_w, i32_w]; rfl
                     refine one_ (i := 55) (N := some 152) skiarealaw52_ClosureHeld.b57 rfl rfl (one_of HT_.out (by kernel_rfl)) (by decide) (fun K hK => ?_)
                     refine goes_ Try.func27 (by kernel_rfl) rfl #[.slice Ao119 t434.length co119, .int .i64 a2_2] (by rfl) rfl rfl (by (try simp only [List.map_toArray, List.map_cons, List.map_nil]); first | done | rfl | (simp only [List.length_drop, List.length_take]; rfl)) ?_
                     with_reducible refine (skiarealaw52_has.calls kj34 _ _ t434 a2_2 t437 _ ?side1 ?side2 A114.out).mono ?_
                     (case side1 => repeat (first | exact (Kd.R_reads' HO436.out).2.2 | (with_reducible refine Kd.cA_ ?_ _) | (with_reducible refine Kd.cN_ ?_ _) | (with_reducible refine Kd.cD_ ?_))); (case side2 => exact (Kd.R_reads' HO436.out).2.1); rintro e w' ⟨rfl, ⟨nd, rfl⟩⟩; refine ⟨_, rfl, ?_⟩
                     refine hK.out _ _ ⟨(blk_cell BK390.out 0).trans rfl, (blk_cell BK390.out 1).trans rfl, (blk_cell BK390.out 2).trans rfl⟩ (fun hHeld => ?_)
                     clear hK K; refine norm_ (a' := ?_) ?_ ?_
                     rotate_left
                     ·
                      show Act.put _ (some 152) _ = _
                      simp only [Act.put, List.setIfInBounds_toArray, List.set_cons_zero, List.set_cons_succ, i64_w, i32_w]; rfl
                     refine pu_ ?_ 58 (some 155) skiarealaw52_ClosureHeld.b58 rfl rfl HT_ (by kernel_rfl) (fun _ _ _ h => h) (by rfl) ?_ ?_ ?_ ?_; rotate_left; (intro w'; go_simp; with_reducible rfl); rotate_left; (simp only [Act.put, sA_, sB_, sC_, i64_w, i32_w]; rfl)
                     refine pu_ ?_ 59 (some 156) skiarealaw52_ClosureHeld.b59 rfl rfl HT_ (by kernel_rfl) (fun _ _ _ h => h) (by rfl) ?_ ?_ ?_ ?_; rotate_left; (intro w'; go_simp; with_reducible rfl); rotate_left; (simp only [Act.put, sA_, sB_, sC_, i64_w, i32_w]; rfl)
                     refine done_ (done_of HT_.out (by kernel_rfl)) ?_
                     try go_wp2
                     go_roundg kj34
                     case measure => have := HJ5.out; have := HK2.out; have := HJ16.out; have := HJ34.out; omega
                     case rel => exact ⟨(x10_16), (wrap64 (x7_2 + 1)), (by first | rfl | (simp; done) | (simp [*]; done)), H', ⟨by have := HJ5.out; have := HK2.out; have := HJ16.out; have := HJ34.out; omega⟩, ⟨Kd.R_V (by (with_reducible repeat (first | apply Kd.rA_ | apply Kd.rN_ | apply Kd.rD_)); exact Kd.R_mono (Kd.R_types HO_10.out BK390.out (by decide)) (fun k_ hk => ⟨.inr hk.1.1, hk.2⟩))⟩, ⟨by (with_reducible repeat (first | refine bN_ ?_ _ | refine bD_ ?_ | refine bA_ ?_ _)); exact BK390.out⟩, ⟨by repeat (first | (with_reducible first | exact HB.out | apply lA_ | apply lN_ | apply lD_ | refine lS_ ?_ GE390.out | refine lS_ ?_ GE394.out) | exact HB.out)⟩⟩
                  ·
                   rw [if_neg c112] at H
                   have c112b0 : (t433 == 0) = false := beq_eq_false_iff_ne.mpr c112; have c112b1 : (t433 != 0) = true := bne_iff_ne.mpr c112
                   exact absurd H (by simp)
                ·
                 rw [if_neg c95] at H
                 have c95b0 : decide (0 ≤ t395) = false := decide_eq_false c95; clear c95; replace H := Option.bind_eq_some_iff.mp H; obtain ⟨t438, A1200, H⟩ := H; replace H : (if t438 = 0 then ((closure_Of.f kj34 x10_16 a2_0 a2_1).bind fun t439 => ((skiarealaw52_has.f kj34 t439 a2_2).bind fun t442 => (if (t442 != (decide (t405 ≥ 0))) = true then (none) else (skiarealaw52_ClosureHeld.l0 kj34 x10_16 l1 (wrap64 (x7_2 + 1)) a2_0 a2_1 a2_2)))) else (none)) = some r := H; have A120 := Aside0.mk A1200; clear A1200; by_cases c121 : t438 = 0
                 ·
                  rw [if_pos c121] at H
                  have c121b0 : (t438 == 0) = true := beq_iff_eq.mpr c121; have c121b1 : (t438 != 0) = false := bne_eq_false_iff_eq.mpr c121; clear c121; replace H := Option.bind_eq_some_iff.mp H; obtain ⟨t439, A1220, H⟩ := H; replace H : ((skiarealaw52_has.f kj34 t439 a2_2).bind fun t442 => (if (t442 != (decide (t405 ≥ 0))) = true then (none) else (skiarealaw52_ClosureHeld.l0 kj34 x10_16 l1 (wrap64 (x7_2 + 1)) a2_0 a2_1 a2_2))) = some r := H; have A122 := Aside0.mk A1220; clear A1220; replace H := Option.bind_eq_some_iff.mp H; obtain ⟨t442, A1230, H⟩ := H; replace H : (if (t442 != (decide (t405 ≥ 0))) = true then (none) else (skiarealaw52_ClosureHeld.l0 kj34 x10_16 l1 (wrap64 (x7_2 + 1)) a2_0 a2_1 a2_2)) = some r := H; have A123 := Aside0.mk A1230; clear A1230; by_cases c124 : (t442 != (decide (t405 ≥ 0))) = true
                  ·
                   rw [if_pos c124] at H
                   exact absurd H (by simp)
                  ·
                   rw [if_neg c124] at H
                   have c124b0 : (t442 != (decide (t405 ≥ 0))) = false := by simpa using c124
                   (first | (have c124z : t442 = true := (bne_eq_false_iff_eq.1 c124b0).trans (decide_eq_true (of_decide_eq_true (show decide (0 ≤ t405) = true by assumption)))) | (have c124z : t442 = false := (bne_eq_false_iff_eq.1 c124b0).trans (decide_eq_false (of_decide_eq_false (show decide (0 ≤ t405) = false by assumption)))) | skip)
                   (try (have c124b1 : decide (t442 = (decide (t405 ≥ 0))) = true := by simpa using c124))
                   (try (have c124b2 : (t442 == (decide (t405 ≥ 0))) = true := by simpa using c124))
                   clear c124; have H' := Aside0.mk H; clear H; try go_wp2
                   have n0_ := Aside0.mk (Kd.V_drew HO_0.out); have n1_ := Aside0.mk (Kd.rD_ HO_10.out); have n2_ := Aside0.mk (bD_ BK390.out); have n3_ := Aside0.mk (bD_ BK394.out); have n4_ := Aside0.mk (lD_ HB.out); clear HO_0; clear HO_10; clear BK390; clear BK394; clear HB; have HO_0 := n0_; have HO_10 := n1_; have BK390 := n2_; have BK394 := n3_; have HB := n4_; clear n0_ n1_ n2_ n3_ n4_
                   as_aux_lemma =>
                    refine start_ (n := 60) (S := fun w' => w'.cell? ⟨gb390, 0, none⟩ = some (.int .i64 a2_0) ∧ w'.cell? ⟨gb390, 1, none⟩ = some (.int .i64 a2_1) ∧ w'.cell? ⟨gb390, 2, none⟩ = some (.int .i64 a2_2)) (ds := []) #[false, false, false, false, false, false, false, false, false, false, false, false, false, false, false, false, false, false, false, false, false, false, false, false, false, false, false, false, false, false, false, false, false, false, false, false, false, false, false, false, false, false, false, false, false, false, false, false, false, false, false, false, false, false, false, false, false, false, false, false] (by kernel_rfl) rfl rfl ⟨(blk_cell BK390.out 0).trans rfl, (blk_cell BK390.out 1).trans rfl, (blk_cell BK390.out 2).trans rfl⟩ (fun hHeld => ?_); refine with_tabW skiarealaw52_ClosureHeld.tab20 skiarealaw52_ClosureHeld.bits20 (fun HT_ HW_ => ?_)
                    generalize wc.drew = w125 at HO_0 HO_10 BK390 BK394 HB hHeld ⊢
                    refine pu_ ?_ 0 (some 97) skiarealaw52_ClosureHeld.b0 rfl rfl HT_ (by kernel_rfl) (fun _ _ _ h => h) (by rfl) ?_ ?_ ?_ ?_; rotate_left; (intro w'; go_simp; with_reducible rfl); rotate_left; (simp only [Act.put, sA_, sB_, sC_, i64_w, i32_w]; rfl)
                    refine pu_ ?_ 1 (some 98) skiarealaw52_ClosureHeld.b1 rfl rfl HT_ (by kernel_rfl) (fun _ _ _ h => h) (by rfl) ?_ ?_ ?_ ?_; rotate_left; (intro w'; go_simp; with_reducible rfl); rotate_left; (simp only [Act.put, sA_, sB_, sC_, i64_w, i32_w]; rfl)
                    refine pu_ ?_ 2 (some 99) skiarealaw52_ClosureHeld.b2 rfl rfl HT_ (by kernel_rfl) (fun _ _ _ h => h) (by rfl) ?_ ?_ ?_ ?_; rotate_left; (intro w'; go_simp; with_reducible rfl); rotate_left; (simp only [Act.put, sA_, sB_, sC_, i64_w, i32_w]; rfl)
                    refine pu_ ?_ 3 (some 100) skiarealaw52_ClosureHeld.b3 rfl rfl HT_ (by kernel_rfl) (fun _ _ _ h => h) (by rfl) ?_ ?_ ?_ ?_; rotate_left; (intro w'; go_simp; with_reducible rfl); rotate_left; (simp only [Act.put, sA_, sB_, sC_, i64_w, i32_w]; rfl)
                    refine pu_ ?_ 4 (some 101) skiarealaw52_ClosureHeld.b4 rfl rfl HT_ (by kernel_rfl) (fun _ _ _ h => h) (by rfl) ?_ ?_ ?_ ?_; rotate_left; (intro w'; go_simp; with_reducible rfl); rotate_left; (simp only [Act.put, sA_, sB_, sC_, i64_w, i32_w]; rfl)
                    refine pu_ ?_ 5 (some 102) skiarealaw52_ClosureHeld.b5 rfl rfl HT_ (by kernel_rfl) (fun _ _ _ h => h) (by rfl) ?_ ?_ ?_ ?_; rotate_left; (intro w'; go_simp; with_reducible rfl); rotate_left; (simp only [Act.put, sA_, sB_, sC_, i64_w, i32_w]; rfl)
                    refine pu_ ?_ 6 (some 103) skiarealaw52_ClosureHeld.b6 rfl rfl HT_ (by kernel_rfl) (fun _ _ _ h => h) (by rfl) ?_ ?_ ?_ ?_; rotate_left; (intro w'; go_simp; with_reducible rfl); rotate_left; (simp only [Act.put, sA_, sB_, sC_, i64_w, i32_w]; rfl)
                    refine pu_ ?_ 7 (some 104) skiarealaw52_ClosureHeld.b7 rfl rfl HT_ (by kernel_rfl) (fun _ _ _ h => h) (by rfl) ?_ ?_ ?_ ?_; rotate_left; (intro w'; go_simp; with_reducible rfl); rotate_left; (simp only [Act.put, sA_, sB_, sC_, i64_w, i32_w]; rfl)
                    refine pu_ ?_ 8 (some 105) skiarealaw52_ClosureHeld.b8 rfl rfl HT_ (by kernel_rfl) (fun _ _ _ h => h) (by rfl) ?_ ?_ ?_ ?_; rotate_left; (intro w'; go_simp; with_reducible rfl); rotate_left; (simp only [Act.put, sA_, sB_, sC_, i64_w, i32_w]; rfl)
                    refine pu_ ?_ 9 (some 106) skiarealaw52_ClosureHeld.b9 rfl rfl HT_ (by kernel_rfl) (fun _ _ _ h => h) (by rfl) ?_ ?_ ?_ ?_; rotate_left; (intro w'; go_simp; with_reducible rfl); rotate_left; (simp only [Act.put, sA_, sB_, sC_, i64_w, i32_w]; rfl)
                    refine pu_ ?_ 10 (some 107) skiarealaw52_ClosureHeld.b10 rfl rfl HT_ (by kernel_rfl) (fun _ _ _ h => h) (by rfl) ?_ ?_ ?_ ?_; rotate_left; (intro w'; go_simp; with_reducible rfl); rotate_left; (simp only [Act.put, sA_, sB_, sC_, i64_w, i32_w]; rfl)
                    refine pu_ ?_ 11 (some 108) skiarealaw52_ClosureHeld.b11 rfl rfl HT_ (by kernel_rfl) (fun _ _ _ h => h) (by rfl) ?_ ?_ ?_ ?_; rotate_left; (intro w'; go_simp; with_reducible rfl); rotate_left; (simp only [Act.put, sA_, sB_, sC_, i64_w, i32_w]; rfl)
                    refine pu_ ?_ 12 (some 109) skiarealaw52_ClosureHeld.b12 rfl rfl HT_ (by kernel_rfl) (fun _ _ _ h => h) (by rfl) ?_ ?_ ?_ ?_; rotate_left; (intro w'; go_simp; with_reducible rfl); rotate_left; (simp only [Act.put, sA_, sB_, sC_, i64_w, i32_w]; rfl)
                    refine pn_ ?_ 13 (some 110) skiarealaw52_ClosureHeld.b13 rfl rfl HT_ (by kernel_rfl) (fun _ _ _ h => h) (by rfl) ?_ ?_; rotate_left; (simp only [Act.put, sA_, sB_, sC_, i64_w, i32_w]; rfl)
                    refine pn_ ?_ 14 (some 111) skiarealaw52_ClosureHeld.b14 rfl rfl HT_ (by kernel_rfl) (fun _ _ _ h => h) (by rfl) ?_ ?_; rotate_left; (simp only [Act.put, sA_, sB_, sC_, i64_w, i32_w]; rfl)
                    refine pu_ ?_ 15 (some 112) skiarealaw52_ClosureHeld.b15 rfl rfl HT_ (by kernel_rfl) (fun _ _ _ h => h) (by rfl) ?_ ?_ ?_ ?_; rotate_left; (intro w'; go_simp; with_reducible rfl); rotate_left; (simp only [Act.put, sA_, sB_, sC_, i64_w, i32_w]; rfl)
                    refine pu_ ?_ 16 (some 113) skiarealaw52_ClosureHeld.b16 rfl rfl HT_ (by kernel_rfl) (fun _ _ _ h => h) (by rfl) ?_ ?_ ?_ ?_; rotate_left; (intro w'; go_simp; with_reducible rfl); rotate_left; (simp only [Act.put, sA_, sB_, sC_, i64_w, i32_w]; rfl)
                    refine pn_ ?_ 17 (some 114) skiarealaw52_ClosureHeld.b17 rfl rfl HT_ (by kernel_rfl) (fun _ _ _ h => h) (by rfl) ?_ ?_; rotate_left; (simp only [Act.put, sA_, sB_, sC_, i64_w, i32_w]; rfl)
                    refine pn_ ?_ 18 (some 115) skiarealaw52_ClosureHeld.b18 rfl rfl HT_ (by kernel_rfl) (fun _ _ _ h => h) (by rfl) ?_ ?_; rotate_left; (simp only [Act.put, sA_, sB_, sC_, i64_w, i32_w]; rfl)
                    refine pn_ ?_ 19 (some 116) skiarealaw52_ClosureHeld.b19 rfl rfl HT_ (by kernel_rfl) (fun _ _ _ h => h) (by rfl) ?_ ?_; rotate_left; (simp only [Act.put, sA_, sB_, sC_, i64_w, i32_w]; rfl)
                    refine pn_ ?_ 20 (some 117) skiarealaw52_ClosureHeld.b60 rfl rfl HT_ (by kernel_rfl) (fun _ _ _ h => h) (by rfl) ?_ ?_; rotate_left; (simp only [Act.put, sA_, sB_, sC_, i64_w, i32_w]; rfl)
                    refine pn_ ?_ 21 (some 118) skiarealaw52_ClosureHeld.b61 rfl rfl HT_ (by kernel_rfl) (fun _ _ _ h => h) (by rfl) ?_ ?_; rotate_left; (simp only [Act.put, sA_, sB_, sC_, i64_w, i32_w]; rfl)
                    refine pn_ ?_ 22 (some 119) skiarealaw52_ClosureHeld.b62 rfl rfl HT_ (by kernel_rfl) (fun _ _ _ h => h) (by rfl) ?_ ?_; rotate_left; (simp only [Act.put, sA_, sB_, sC_, i64_w, i32_w]; rfl)
                    refine pn_ ?_ 23 (some 120) skiarealaw52_ClosureHeld.b23 rfl rfl HT_ (by kernel_rfl) (fun _ _ _ h => h) (by rfl) ?_ ?_; rotate_left; (simp only [Act.put, sA_, sB_, sC_, i64_w, i32_w]; rfl)
                    refine pn_ ?_ 24 (some 121) skiarealaw52_ClosureHeld.b24 rfl rfl HT_ (by kernel_rfl) (fun _ _ _ h => h) (by rfl) ?_ ?_; rotate_left; (simp only [Act.put, sA_, sB_, sC_, i64_w, i32_w]; rfl)
                    refine pn_ ?_ 25 (some 122) skiarealaw52_ClosureHeld.b25 rfl rfl HT_ (by kernel_rfl) (fun _ _ _ h => h) (by rfl) ?_ ?_; rotate_left; (simp only [Act.put, sA_, sB_, sC_, i64_w, i32_w]; rfl)
                    refine pu_ ?_ 26 (some 123) skiarealaw52_ClosureHeld.b26 rfl rfl HT_ (by kernel_rfl) (fun _ _ _ h => h) (by rfl) ?_ ?_ ?_ ?_; rotate_left; (intro w'; go_simp; with_reducible rfl); rotate_left; (simp only [Act.put, sA_, sB_, sC_, i64_w, i32_w]; rfl)
                    refine pu_ ?_ 27 (some 124) skiarealaw52_ClosureHeld.b27 rfl rfl HT_ (by kernel_rfl) (fun _ _ _ h => h) (by rfl) ?_ ?_ ?_ ?_; rotate_left; (intro w'; go_simp; with_reducible rfl); rotate_left; (simp only [Act.put, sA_, sB_, sC_, i64_w, i32_w]; rfl)
                    refine pu_ ?_ 28 (some 125) skiarealaw52_ClosureHeld.b28 rfl rfl HT_ (by kernel_rfl) (fun _ _ _ h => h) (by rfl) ?_ ?_ ?_ ?_; rotate_left; (intro w'; go_simp; with_reducible rfl); rotate_left; (simp only [Act.put, sA_, sB_, sC_, i64_w, i32_w]; rfl)
                    refine pu_ ?_ 29 (some 126) skiarealaw52_ClosureHeld.b29 rfl rfl HT_ (by kernel_rfl) (fun _ _ _ h => h) (by rfl) ?_ ?_ ?_ ?_; rotate_left; (intro w'; go_simp; with_reducible rfl); rotate_left; (simp only [Act.put, sA_, sB_, sC_, i64_w, i32_w]; rfl)
                    refine pu_ ?_ 30 (some 127) skiarealaw52_ClosureHeld.b30 rfl rfl HT_ (by kernel_rfl) (fun _ _ _ h => h) (by rfl) ?_ ?_ ?_ ?_; rotate_left; (intro w'; go_simp; with_reducible rfl); rotate_left; (simp only [Act.put, sA_, sB_, sC_, i64_w, i32_w]; rfl)
                    refine pn_ ?_ 31 (some 128) skiarealaw52_ClosureHeld.b31 rfl rfl HT_ (by kernel_rfl) (fun _ _ _ h => h) (by rfl) ?_ ?_; rotate_left; (simp only [Act.put, sA_, sB_, sC_, i64_w, i32_w]; rfl)
                    refine pn_ ?_ 32 (some 129) skiarealaw52_ClosureHeld.b32 rfl rfl HT_ (by kernel_rfl) (fun _ _ _ h => h) (by rfl) ?_ ?_; rotate_left; (simp only [Act.put, sA_, sB_, sC_, i64_w, i32_w]; rfl)
                    refine pn_ ?_ 33 (some 130) skiarealaw52_ClosureHeld.b33 rfl rfl HT_ (by kernel_rfl) (fun _ _ _ h => h) (by rfl) ?_ ?_; rotate_left; (simp only [Act.put, sA_, sB_, sC_, i64_w, i32_w]; rfl)
                    refine pn_ ?_ 34 (some 131) skiarealaw52_ClosureHeld.b34 rfl rfl HT_ (by kernel_rfl) (fun _ _ _ h => h) (by rfl) ?_ ?_; rotate_left; (simp only [Act.put, sA_, sB_, sC_, i64_w, i32_w]; rfl)
                    refine pn_ ?_ 35 (some 132) skiarealaw52_ClosureHeld.b63 rfl rfl HT_ (by kernel_rfl) (fun _ _ _ h => h) (by rfl) ?_ ?_; rotate_left; (simp only [Act.put, sA_, sB_, sC_, i64_w, i32_w]; rfl)
                    refine pn_ ?_ 36 (some 133) skiarealaw52_ClosureHeld.b64 rfl rfl HT_ (by kernel_rfl) (fun _ _ _ h => h) (by rfl) ?_ ?_; rotate_left; (simp only [Act.put, sA_, sB_, sC_, i64_w, i32_w]; rfl)
                    refine pn_ ?_ 37 (some 134) skiarealaw52_ClosureHeld.b37 rfl rfl HT_ (by kernel_rfl) (fun _ _ _ h => h) (by rfl) ?_ ?_; rotate_left; (simp only [Act.put, sA_, sB_, sC_, i64_w, i32_w]; rfl)
                    refine pn_ ?_ 38 (some 135) skiarealaw52_ClosureHeld.b38 rfl rfl HT_ (by kernel_rfl) (fun _ _ _ h => h) (by rfl) ?_ ?_; rotate_left; (simp only [Act.put, sA_, sB_, sC_, i64_w, i32_w]; rfl)
                    refine pu_ ?_ 39 (some 136) skiarealaw52_ClosureHeld.b39 rfl rfl HT_ (by kernel_rfl) (fun _ _ _ h => h) (by rfl) ?_ ?_ ?_ ?_; rotate_left; (intro w'; go_simp; with_reducible rfl); rotate_left; (simp only [Act.put, sA_, sB_, sC_, i64_w, i32_w]; rfl)
                    refine pu_ ?_ 40 (some 137) skiarealaw52_ClosureHeld.b40 rfl rfl HT_ (by kernel_rfl) (fun _ _ _ h => h) (by rfl) ?_ ?_ ?_ ?_; rotate_left; (intro w'; go_simp; with_reducible rfl); rotate_left; (simp only [Act.put, sA_, sB_, sC_, i64_w, i32_w]; rfl)
                    refine pu_ ?_ 41 (some 138) skiarealaw52_ClosureHeld.b41 rfl rfl HT_ (by kernel_rfl) (fun _ _ _ h => h) (by rfl) ?_ ?_ ?_ ?_; rotate_left; (intro w'; go_simp; with_reducible rfl); rotate_left; (simp only [Act.put, sA_, sB_, sC_, i64_w, i32_w]; rfl)
                    refine pu_ ?_ 42 (some 139) skiarealaw52_ClosureHeld.b42 rfl rfl HT_ (by kernel_rfl) (fun _ _ _ h => h) (by rfl) ?_ ?_ ?_ ?_; rotate_left; (intro w'; go_simp; with_reducible rfl); rotate_left; (simp only [Act.put, sA_, sB_, sC_, i64_w, i32_w]; rfl)
                    refine one_ (i := 43) (N := some 140) skiarealaw52_ClosureHeld.b43 rfl rfl (one_of HT_.out (by kernel_rfl)) (by decide) (fun K hK => ?_)
                    refine goes_ Try.func10 (by kernel_rfl) rfl #[.slice Ao38 x10_16.length co38] (by rfl) rfl rfl (by (try simp only [List.map_toArray, List.map_cons, List.map_nil]); first | done | rfl | (simp only [List.length_drop, List.length_take]; rfl)) ?_
                    with_reducible refine (closure_Right.calls kj34 _ _ x10_16 t438 _ ?side1 ?side2 A120.out).mono ?_
                    (case side1 => repeat (first | exact (Kd.R_reads' HO_10.out).2.2 | (with_reducible refine Kd.cA_ ?_ _) | (with_reducible refine Kd.cN_ ?_ _) | (with_reducible refine Kd.cD_ ?_))); (case side2 => exact (Kd.R_reads' HO_10.out).2.1); rintro e w126 ⟨rfl, hb⟩; refine ⟨_, rfl, ?_⟩
                    have n0_ := Aside0.mk (Kd.V_below (by (with_reducible repeat (first | apply Kd.V_alloc | apply Kd.V_drewN | apply Kd.V_drew)); exact HO_0.out) hb); have n1_ := Aside0.mk (Kd.R_below (by (with_reducible repeat (first | apply Kd.rA_ | apply Kd.rN_ | apply Kd.rD_)); exact HO_10.out) hb); have n2_ := Aside0.mk (blk_below (g := gb390) (o := .cells #[.int .i64 a2_0, .int .i64 a2_1, .int .i64 a2_2] 30 (0, 0)) (by (with_reducible repeat (first | refine bN_ ?_ _ | refine bD_ ?_ | refine bA_ ?_ _)); exact BK390.out) hb); have n3_ := Aside0.mk (blk_below (g := gb394) (o := .cells #[.int .i64 ((rd_T50 l1 x7_2).f1.f0), .int .i64 ((rd_T50 l1 x7_2).f1.f1), .int .i64 ((rd_T50 l1 x7_2).f1.f2), .int .i64 ((rd_T50 l1 x7_2).f1.f3)] 28 (0, 0)) (by (with_reducible repeat (first | refine bN_ ?_ _ | refine bD_ ?_ | refine bA_ ?_ _)); exact BK394.out) hb); have n4_ := Aside0.mk (below_step (by repeat (first | (with_reducible first | exact HB.out | apply lA_ | apply lN_ | apply lD_ | refine lS_ ?_ GE390.out | refine lS_ ?_ GE394.out) | exact HB.out)) hb); clear HO_0; clear HO_10; clear BK390; clear BK394; clear HB; have HO_0 := n0_; have HO_10 := n1_; have BK390 := n2_; have BK394 := n3_; have HB := n4_; clear n0_ n1_ n2_ n3_ n4_; (try clear hb); (try clear hb2); (try clear hk); (try clear hi); refine hK.out _ _ ⟨(blk_cell BK390.out 0).trans rfl, (blk_cell BK390.out 1).trans rfl, (blk_cell BK390.out 2).trans rfl⟩ (fun hHeld => ?_)
                    clear hK K; refine norm_ (a' := ?_) ?_ ?_
                    rotate_left
                    ·
                     show Act.put _ (some 140) _ = _
                     simp only [Act.put, List.setIfInBounds_toArray, List.set_cons_zero, List.set_cons_succ, i64_w, i32_w]; rfl
                    refine pu_ ?_ 44 (some 141) skiarealaw52_ClosureHeld.b44 rfl rfl HT_ (by kernel_rfl) (fun _ _ _ h => h) (by rfl) ?_ ?_ ?_ ?_; rotate_left; (intro w'; go_simp; with_reducible rfl); rotate_left; (simp only [Act.put, sA_, sB_, sC_, i64_w, i32_w]; rfl)
                    refine pu_ ?_ 45 (some 142) skiarealaw52_ClosureHeld.b45 rfl rfl HT_ (by kernel_rfl) (fun _ _ _ h => h) (by rfl) ?_ ?_ ?_ ?_; rotate_left; (intro w'; go_simp; with_reducible rfl); rotate_left; (simp only [Act.put, sA_, sB_, sC_, i64_w, i32_w]; rfl)
                    refine pu_ ?_ 46 (some 143) skiarealaw52_ClosureHeld.b46 rfl rfl HT_ (by kernel_rfl) (fun _ _ _ h => h) (by rfl) ?_ ?_ ?_ ?_; rotate_left; (intro w'; go_simp; with_reducible rfl); rotate_left; (simp only [Act.put, sA_, sB_, sC_, i64_w, i32_w]; rfl)
                    refine pu_ ?_ 47 (some 144) skiarealaw52_ClosureHeld.b47 rfl rfl HT_ (by kernel_rfl) (fun _ _ _ h => h) (by rfl) ?_ ?_ ?_ ?_; rotate_left; (intro w'; go_simp; with_reducible rfl); rotate_left; (simp only [Act.put, sA_, sB_, sC_, i64_w, i32_w]; rfl)
                    refine pu_ ?_ 48 (some 145) skiarealaw52_ClosureHeld.b48 rfl rfl HT_ (by kernel_rfl) (fun _ _ _ h => h) (by rfl) ?_ ?_ ?_ ?_; rotate_left; (intro w'; go_simp; with_reducible rfl); rotate_left; (simp only [Act.put, sA_, sB_, sC_, i64_w, i32_w]; rfl)
                    refine pu_ ?_ 50 (some 147) skiarealaw52_ClosureHeld.b49 rfl rfl HT_ (by kernel_rfl) (fun _ _ _ h => h) (by rfl) ?_ ?_ ?_ ?_; rotate_left; (intro w'; go_simp; with_reducible rfl); rotate_left; (simp only [Act.put, sA_, sB_, sC_, i64_w, i32_w]; rfl)
                    refine pu_ ?_ 53 (some 150) skiarealaw52_ClosureHeld.b50 rfl rfl HT_ (by kernel_rfl) (fun _ _ _ h => h) (by rfl) ?_ ?_ ?_ ?_; rotate_left; (intro w'; go_simp; with_reducible rfl); rotate_left; (simp only [Act.put, sA_, sB_, sC_, i64_w, i32_w]; rfl)
                    refine pu_ ?_ 56 (some 153) skiarealaw52_ClosureHeld.b51 rfl rfl HT_ (by kernel_rfl) (fun _ _ _ h => h) (by rfl) ?_ ?_ ?_ ?_; rotate_left; (intro w'; go_simp; with_reducible rfl); rotate_left; (simp only [Act.put, sA_, sB_, sC_, i64_w, i32_w]; rfl)
                    refine pu_ ?_ 57 (some 154) skiarealaw52_ClosureHeld.b52 rfl rfl HT_ (by kernel_rfl) (fun _ _ _ h => h) (by rfl) ?_ ?_ ?_ ?_; rotate_left; (intro w'; go_simp; with_reducible rfl); rotate_left; (simp only [Act.put, sA_, sB_, sC_, i64_w, i32_w]; rfl)
                    refine take_ (i := 49) (N := some 146) (v := ?_) (a' := ?_) skiarealaw52_ClosureHeld.b53 rfl rfl (take_ofW HT_.out HW_.out (by kernel_rfl)) (fun _ _ _ h => h) (Or.inl ⟨by rfl, ?_⟩) hHeld ?_ ?_
                    rotate_left
                    ·
                     rintro w' ⟨s0, s1, s2⟩; go_simp
                     with_reducible rfl
                    rotate_left
                    ·
                     simp only [Act.put, List.setIfInBounds_toArray, List.set_cons_zero, List.set_cons_succ, i64_w, i32_w]; rfl
                    refine take_ (i := 51) (N := some 148) (v := ?_) (a' := ?_) skiarealaw52_ClosureHeld.b54 rfl rfl (take_ofW HT_.out HW_.out (by kernel_rfl)) (fun _ _ _ h => h) (Or.inl ⟨by rfl, ?_⟩) hHeld ?_ ?_
                    rotate_left
                    ·
                     rintro w' ⟨s0, s1, s2⟩; go_simp
                     with_reducible rfl
                    rotate_left
                    ·
                     simp only [Act.put, List.setIfInBounds_toArray, List.set_cons_zero, List.set_cons_succ, i64_w, i32_w]; rfl
                    refine take_ (i := 54) (N := some 151) (v := ?_) (a' := ?_) skiarealaw52_ClosureHeld.b55 rfl rfl (take_ofW HT_.out HW_.out (by kernel_rfl)) (fun _ _ _ h => h) (Or.inl ⟨by rfl, ?_⟩) hHeld ?_ ?_
                    rotate_left
                    ·
                     rintro w' ⟨s0, s1, s2⟩; go_simp
                     with_reducible rfl
                    rotate_left
                    ·
                     simp only [Act.put, List.setIfInBounds_toArray, List.set_cons_zero, List.set_cons_succ, i64_w, i32_w]; rfl
                    refine one_ (i := 52) (N := some 149) skiarealaw52_ClosureHeld.b56 rfl rfl (one_of HT_.out (by kernel_rfl)) (by decide) (fun K hK => ?_)
                    refine goes_ Try.func20 (by kernel_rfl) rfl #[.slice Ao38 x10_16.length co38, .int .i64 a2_0, .int .i64 a2_1] (by rfl) rfl rfl (by (try simp only [List.map_toArray, List.map_cons, List.map_nil]); first | done | rfl | (simp only [List.length_drop, List.length_take]; rfl)) ?_
                    with_reducible refine (closure_Of.calls kj34 _ _ x10_16 a2_0 a2_1 t439 _ ?side1 ?side2 A122.out).mono ?_
                    (case side1 => repeat (first | exact (Kd.R_reads' HO_10.out).2.2 | (with_reducible refine Kd.cA_ ?_ _) | (with_reducible refine Kd.cN_ ?_ _) | (with_reducible refine Kd.cD_ ?_))); (case side2 => exact (Kd.R_reads' HO_10.out).2.1); rintro e w127 ⟨v440, rfl, ho0, hb⟩; refine ⟨_, rfl, ?_⟩
                    have n0_ := Aside0.mk (Kd.V_elder' (by (with_reducible repeat (first | apply Kd.V_alloc | apply Kd.V_drewN | apply Kd.V_drew)); exact HO_0.out) (Kd.R_base ho0) hb); have n1_ := Aside0.mk (Kd.R_below (by (with_reducible repeat (first | apply Kd.rA_ | apply Kd.rN_ | apply Kd.rD_)); exact HO_10.out) hb); have n2_ := Aside0.mk (Kd.R_lower (Kd.R_newM (M := fun k_ => (w.heap.size ≤ k_)) ho0 (below_size (by repeat (first | (with_reducible first | exact HB.out | apply lA_ | apply lN_ | apply lD_ | refine lS_ ?_ GE390.out | refine lS_ ?_ GE394.out) | exact HB.out))) (fun k_ h_ => h_)) (below_size (by repeat (first | (with_reducible first | exact HB.out | apply lA_ | apply lN_ | apply lD_ | refine lS_ ?_ GE390.out | refine lS_ ?_ GE394.out) | exact HB.out)))); have n3_ := Aside0.mk (blk_below (g := gb390) (o := .cells #[.int .i64 a2_0, .int .i64 a2_1, .int .i64 a2_2] 30 (0, 0)) (by (with_reducible repeat (first | refine bN_ ?_ _ | refine bD_ ?_ | refine bA_ ?_ _)); exact BK390.out) hb); have n4_ := Aside0.mk (blk_below (g := gb394) (o := .cells #[.int .i64 ((rd_T50 l1 x7_2).f1.f0), .int .i64 ((rd_T50 l1 x7_2).f1.f1), .int .i64 ((rd_T50 l1 x7_2).f1.f2), .int .i64 ((rd_T50 l1 x7_2).f1.f3)] 28 (0, 0)) (by (with_reducible repeat (first | refine bN_ ?_ _ | refine bD_ ?_ | refine bA_ ?_ _)); exact BK394.out) hb); have n5_ := Aside0.mk (below_step (by repeat (first | (with_reducible first | exact HB.out | apply lA_ | apply lN_ | apply lD_ | refine lS_ ?_ GE390.out | refine lS_ ?_ GE394.out) | exact HB.out)) hb); clear HO_0; clear HO_10; clear BK390; clear BK394; clear HB; have HO_0 := n0_; have HO_10 := n1_; have HO441 := n2_; have BK390 := n3_; have BK394 := n4_; have HB := n5_; clear n0_ n1_ n2_ n3_ n4_ n5_; (try clear hb); (try clear hb2); (try clear hk); (try clear hi); (try clear ho0); obtain ⟨Ao128, co128, eo128⟩ := Kd.R_slice HO441.out; (first | subst eo128 | (injection eo128 with f1_ f2_ f3_; have f4_ := f1_.symm; have f5_ := f3_.symm; clear f1_ f2_ f3_; subst f4_; subst f5_))
                    refine hK.out _ _ ⟨(blk_cell BK390.out 0).trans rfl, (blk_cell BK390.out 1).trans rfl, (blk_cell BK390.out 2).trans rfl⟩ (fun hHeld => ?_)
                    clear hK K; refine norm_ (a' := ?_) ?_ ?_
                    rotate_left
                    ·
                     show Act.put _ (some 149) _ = _
                     simp only [Act.put, List.setIfInBounds_toArray, List.set_cons_zero, List.set_cons_succ, i64_w, i32_w]; rfl
                    refine one_ (i := 55) (N := some 152) skiarealaw52_ClosureHeld.b57 rfl rfl (one_of HT_.out (by kernel_rfl)) (by decide) (fun K hK => ?_)
                    refine goes_ Try.func27 (by kernel_rfl) rfl #[.slice Ao128 t439.length co128, .int .i64 a2_2] (by rfl) rfl rfl (by (try simp only [List.map_toArray, List.map_cons, List.map_nil]); first | done | rfl | (simp only [List.length_drop, List.length_take]; rfl)) ?_
                    with_reducible refine (skiarealaw52_has.calls kj34 _ _ t439 a2_2 t442 _ ?side1 ?side2 A123.out).mono ?_
                    (case side1 => repeat (first | exact (Kd.R_reads' HO441.out).2.2 | (with_reducible refine Kd.cA_ ?_ _) | (with_reducible refine Kd.cN_ ?_ _) | (with_reducible refine Kd.cD_ ?_))); (case side2 => exact (Kd.R_reads' HO441.out).2.1); rintro e w' ⟨rfl, ⟨nd, rfl⟩⟩; refine ⟨_, rfl, ?_⟩
                    refine hK.out _ _ ⟨(blk_cell BK390.out 0).trans rfl, (blk_cell BK390.out 1).trans rfl, (blk_cell BK390.out 2).trans rfl⟩ (fun hHeld => ?_)
                    clear hK K; refine norm_ (a' := ?_) ?_ ?_
                    rotate_left
                    ·
                     show Act.put _ (some 152) _ = _
                     simp only [Act.put, List.setIfInBounds_toArray, List.set_cons_zero, List.set_cons_succ, i64_w, i32_w]; rfl
                    refine pu_ ?_ 58 (some 155) skiarealaw52_ClosureHeld.b58 rfl rfl HT_ (by kernel_rfl) (fun _ _ _ h => h) (by rfl) ?_ ?_ ?_ ?_; rotate_left; (intro w'; go_simp; with_reducible rfl); rotate_left; (simp only [Act.put, sA_, sB_, sC_, i64_w, i32_w]; rfl)
                    refine pu_ ?_ 59 (some 156) skiarealaw52_ClosureHeld.b59 rfl rfl HT_ (by kernel_rfl) (fun _ _ _ h => h) (by rfl) ?_ ?_ ?_ ?_; rotate_left; (intro w'; go_simp; with_reducible rfl); rotate_left; (simp only [Act.put, sA_, sB_, sC_, i64_w, i32_w]; rfl)
                    refine done_ (done_of HT_.out (by kernel_rfl)) ?_
                    try go_wp2
                    go_roundg kj34
                    case measure => have := HJ5.out; have := HK2.out; have := HJ16.out; have := HJ34.out; omega
                    case rel => exact ⟨(x10_16), (wrap64 (x7_2 + 1)), (by first | rfl | (simp; done) | (simp [*]; done)), H', ⟨by have := HJ5.out; have := HK2.out; have := HJ16.out; have := HJ34.out; omega⟩, ⟨Kd.R_V (by (with_reducible repeat (first | apply Kd.rA_ | apply Kd.rN_ | apply Kd.rD_)); exact Kd.R_mono (Kd.R_types HO_10.out BK390.out (by decide)) (fun k_ hk => ⟨.inr hk.1.1, hk.2⟩))⟩, ⟨by (with_reducible repeat (first | refine bN_ ?_ _ | refine bD_ ?_ | refine bA_ ?_ _)); exact BK390.out⟩, ⟨by repeat (first | (with_reducible first | exact HB.out | apply lA_ | apply lN_ | apply lD_ | refine lS_ ?_ GE390.out | refine lS_ ?_ GE394.out) | exact HB.out)⟩⟩
                 ·
                  rw [if_neg c121] at H
                  have c121b0 : (t438 == 0) = false := beq_eq_false_iff_ne.mpr c121; have c121b1 : (t438 != 0) = true := bne_iff_ne.mpr c121
                  exact absurd H (by simp)
           ·
            rw [if_neg c33] at H
            have c33b0 : (x11_16 == 0) = false := beq_eq_false_iff_ne.mpr c33; have c33b1 : (x11_16 != 0) = true := bne_iff_ne.mpr c33; by_cases c129 : (x10_16.length : Int) = 0
            ·
             rw [if_pos c129] at H
             have c129b0 : ((x10_16.length : Int) == 0) = true := beq_iff_eq.mpr c129; have c129b1 : ((x10_16.length : Int) != 0) = false := bne_eq_false_iff_eq.mpr c129; clear c129; have H' := Aside0.mk H; clear H; obtain ⟨Ao130, co130, eo130⟩ := Kd.R_slice HO_10.out; subst eo130; go_wp2
             go_roundg kj16
             case measure => have := HJ5.out; have := HK2.out; have := HJ16.out; omega
             case rel => exact ⟨(x0_2), (wrap64 (x7_2 + 1)), (by first | rfl | (simp; done) | (simp [*]; done)), H', ⟨by have := HJ5.out; have := HK2.out; have := HJ16.out; omega⟩, ⟨by (with_reducible repeat (first | apply Kd.V_alloc | apply Kd.V_drewN | apply Kd.V_drew)); exact Kd.V_mono HO_0.out (fun _ hk => ⟨hk.1, hk.2.2.1⟩)⟩, ⟨by (with_reducible repeat (first | refine bN_ ?_ _ | refine bD_ ?_ | refine bA_ ?_ _)); exact BK390.out⟩, ⟨by repeat (first | (with_reducible first | exact HB.out | apply lA_ | apply lN_ | apply lD_ | refine lS_ ?_ GE390.out | refine lS_ ?_ GE394.out) | exact HB.out)⟩⟩
            ·
             rw [if_neg c129] at H
             exact absurd H (by simp)
        ·
         rw [if_neg c15] at H
         exact absurd H (by simp)
       ·
        rw [if_neg c14] at H
        have c14b0 : decide (x7_2 < (l1.length : Int)) = false := decide_eq_false c14; clear c14; obtain rfl := Option.some.inj H; go_wp2
        go_ret
        exact ⟨by first | rfl | (simp [errW_none, errW_some] <;> rfl) | (simp [*, errW_none, errW_some] <;> rfl), by repeat (first | (with_reducible first | exact HB.out | apply lA_ | apply lN_ | apply lD_ | refine lS_ ?_ GE390.out) | exact HB.out)⟩
 ·
  replace c5 := Bool.eq_false_iff.mpr c5; subst c5; have H1 : (none) = some r := by rw [if_neg (show ¬ (false = true) by decide)] at H; exact H
  clear H; have H := H1; clear H1
  exact absurd H (by simp)

end Go.Proofs.Ytnnnjpkmdjkdjaa.A
