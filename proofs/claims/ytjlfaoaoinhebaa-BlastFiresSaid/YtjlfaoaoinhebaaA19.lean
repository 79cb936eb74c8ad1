-- PRINTED by print.py (a twelfth state) out of the translation. Not trusted: Lean checks it.
import Derived.Test.YtjlfaoaoinhebaaA0
import Derived.Test.YtjlfaoaoinhebaaA18
namespace Go.Proofs.Ytjlfaoaoinhebaa.A
open Go.RowKit Go.Proofs.YtjlfaoaoinhebaaW.PrintWords Go.Proofs.YtjlfaoaoinhebaaW.PrintLast Go.Proofs.YtjlfaoaoinhebaaW.PrintMore
attribute [local go_sem] max2_int min2_int max_two min_two max_three min_three max_four min_four   -- for this text's walks alone
set_option linter.unusedVariables false
set_option linter.unusedSimpArgs false

mutual
def skiarearef51_Right.l0 : Nat → List (S30) → Int → Option (Int)
 | 0, _, _ => none
 | k + 1, x0, x3 => if x3 < (x0.length : Int) then (if 0 ≤ x3 then ((skiarearef51_in.f ((rd_T30 x0 x3).f0) 1 9999).bind fun t216 => (if t216 = true then ((skiarearef51_in.f ((rd_T30 x0 x3).f1) 1 9999).bind fun t217 => (if t217 = true then ((skiarearef51_in.f ((rd_T30 x0 x3).f2) 1 9999).bind fun t218 => (if t218 = true then ((skiarearef51_in.f ((rd_T30 x0 x3).f3) 0 6).bind fun t219 => (if t219 = true then ((skiarearef51_in.f ((rd_T30 x0 x3).f4) 0 20000000).bind fun t220 => (if t220 = true then (if ((rd_T30 x0 x3).f5.f0) < 0 then (skiarearef51_Right.j1 k x0 x3 true ((rd_T30 x0 x3).f0) ((rd_T30 x0 x3).f1) ((rd_T30 x0 x3).f2) ((rd_T30 x0 x3).f3) ((rd_T30 x0 x3).f4) ((rd_T30 x0 x3).f5.f0) ((rd_T30 x0 x3).f5.f1)) else (if ((rd_T30 x0 x3).f5.f0) ≥ ((rd_T30 x0 x3).f5.f1) then (skiarearef51_Right.j1 k x0 x3 true ((rd_T30 x0 x3).f0) ((rd_T30 x0 x3).f1) ((rd_T30 x0 x3).f2) ((rd_T30 x0 x3).f3) ((rd_T30 x0 x3).f4) ((rd_T30 x0 x3).f5.f0) ((rd_T30 x0 x3).f5.f1)) else (skiarearef51_Right.j1 k x0 x3 (decide (((rd_T30 x0 x3).f5.f1) > 20000000)) ((rd_T30 x0 x3).f0) ((rd_T30 x0 x3).f1) ((rd_T30 x0 x3).f2) ((rd_T30 x0 x3).f3) ((rd_T30 x0 x3).f4) ((rd_T30 x0 x3).f5.f0) ((rd_T30 x0 x3).f5.f1)))) else (skiarearef51_Right.j1 k x0 x3 true ((rd_T30 x0 x3).f0) ((rd_T30 x0 x3).f1) ((rd_T30 x0 x3).f2) ((rd_T30 x0 x3).f3) ((rd_T30 x0 x3).f4) ((rd_T30 x0 x3).f5.f0) ((rd_T30 x0 x3).f5.f1)))) else (skiarearef51_Right.j1 k x0 x3 true ((rd_T30 x0 x3).f0) ((rd_T30 x0 x3).f1) ((rd_T30 x0 x3).f2) ((rd_T30 x0 x3).f3) ((rd_T30 x0 x3).f4) ((rd_T30 x0 x3).f5.f0) ((rd_T30 x0 x3).f5.f1)))) else (skiarearef51_Right.j1 k x0 x3 true ((rd_T30 x0 x3).f0) ((rd_T30 x0 x3).f1) ((rd_T30 x0 x3).f2) ((rd_T30 x0 x3).f3) ((rd_T30 x0 x3).f4) ((rd_T30 x0 x3).f5.f0) ((rd_T30 x0 x3).f5.f1)))) else (skiarearef51_Right.j1 k x0 x3 true ((rd_T30 x0 x3).f0) ((rd_T30 x0 x3).f1) ((rd_T30 x0 x3).f2) ((rd_T30 x0 x3).f3) ((rd_T30 x0 x3).f4) ((rd_T30 x0 x3).f5.f0) ((rd_T30 x0 x3).f5.f1)))) else (skiarearef51_Right.j1 k x0 x3 true ((rd_T30 x0 x3).f0) ((rd_T30 x0 x3).f1) ((rd_T30 x0 x3).f2) ((rd_T30 x0 x3).f3) ((rd_T30 x0 x3).f4) ((rd_T30 x0 x3).f5.f0) ((rd_T30 x0 x3).f5.f1)))) else (none)) else (some 0)
def skiarearef51_Right.j1 : Nat → List (S30) → Int → Bool → Int → Int → Int → Int → Int → Int → Int → Option (Int)
 | 0, _, _, _, _, _, _, _, _, _, _ => none
 | k + 1, x0, x3, x21, x215000, x215001, x215002, x215003, x215004, x215005, x215006 => if x21 = true then (some 2) else (if 0 ≤ x3 then (if x3 ≤ (x0.length : Int) then ((skiarearef51_index.f k (x0.take (x3 : Int).toNat) x215000).bind fun t225 => (if t225 ≥ 0 then (some 7) else ((skiarearef51_open.f x215000 x215001 x215002 x215003 x215004 x215005 x215006).bind fun t226 => (if t226 = true then ((skiarearef51_taken.f k (x0.take (x3 : Int).toNat) x215001).bind fun t231 => (if t231 = true then (some 15) else (skiarearef51_Right.l0 k x0 (wrap64 (x3 + 1))))) else (skiarearef51_Right.l0 k x0 (wrap64 (x3 + 1))))))) else (none)) else (none))
end
def skiarearef51_Right.f (k : Nat) (l0 : List (S30)) : Option (Int) := if (l0.length : Int) > 64 then (some 4) else (skiarearef51_Right.l0 k l0 0)
theorem skiarearef51_Right.mono_l : ∀ k, (∀ y0 y1, LeO (skiarearef51_Right.l0 k y0 y1) (skiarearef51_Right.l0 (k + 1) y0 y1)) ∧ (∀ y0 y1 y2 y3 y4 y5 y6 y7 y8 y9, LeO (skiarearef51_Right.j1 k y0 y1 y2 y3 y4 y5 y6 y7 y8 y9) (skiarearef51_Right.j1 (k + 1) y0 y1 y2 y3 y4 y5 y6 y7 y8 y9))
 | 0 => ⟨fun _ _ r h => by simp [skiarearef51_Right.l0] at h, fun _ _ _ _ _ _ _ _ _ _ r h => by simp [skiarearef51_Right.j1] at h⟩
 | k + 1 => by
  obtain ⟨ih0, ih1⟩ := skiarearef51_Right.mono_l k; refine ⟨?_, ?_⟩
  ·
   intro y0 y1; unfold skiarearef51_Right.l0
   repeat' first
   | (with_reducible exact ih0 _ _)
   | (with_reducible exact ih1 _ _ _ _ _ _ _ _ _ _)
   | (with_reducible exact skiarearef51_index.mono _ _ _)
   | (with_reducible exact skiarearef51_taken.mono _ _ _)
   | (with_reducible exact LeO.refl _)
   | (with_reducible exact LeO.none _)
   | (with_reducible refine LeO.ite ?_ ?_)
   | (with_reducible refine LeO.bind ?_ (fun _ => ?_))
   | exact ih0 _ _
   | exact ih1 _ _ _ _ _ _ _ _ _ _
   | exact skiarearef51_index.mono _ _ _
   | exact skiarearef51_taken.mono _ _ _
   | exact LeO.none _
   | refine LeO.ite ?_ ?_
   | refine LeO.bind ?_ (fun _ => ?_)
  ·
   intro y0 y1 y2 y3 y4 y5 y6 y7 y8 y9; unfold skiarearef51_Right.j1
   repeat' first
   | (with_reducible exact ih0 _ _)
   | (with_reducible exact ih1 _ _ _ _ _ _ _ _ _ _)
   | (with_reducible exact skiarearef51_index.mono _ _ _)
   | (with_reducible exact skiarearef51_taken.mono _ _ _)
   | (with_reducible exact LeO.refl _)
   | (with_reducible exact LeO.none _)
   | (with_reducible refine LeO.ite ?_ ?_)
   | (with_reducible refine LeO.bind ?_ (fun _ => ?_))
   | exact ih0 _ _
   | exact ih1 _ _ _ _ _ _ _ _ _ _
   | exact skiarearef51_index.mono _ _ _
   | exact skiarearef51_taken.mono _ _ _
   | exact LeO.none _
   | refine LeO.ite ?_ ?_
   | refine LeO.bind ?_ (fun _ => ?_)
theorem skiarearef51_Right.mono : ∀ a0 k, LeO (skiarearef51_Right.f k a0) (skiarearef51_Right.f (k + 1) a0) := by
 intro a0 k; obtain ⟨ih0, ih1⟩ := skiarearef51_Right.mono_l k; unfold skiarearef51_Right.f
 repeat' first
   | (with_reducible exact ih0 _ _)
   | (with_reducible exact ih1 _ _ _ _ _ _ _ _ _ _)
   | (with_reducible exact skiarearef51_index.mono _ _ _)
   | (with_reducible exact skiarearef51_taken.mono _ _ _)
   | (with_reducible exact LeO.refl _)
   | (with_reducible exact LeO.none _)
   | (with_reducible refine LeO.ite ?_ ?_)
   | (with_reducible refine LeO.bind ?_ (fun _ => ?_))
   | exact ih0 _ _
   | exact ih1 _ _ _ _ _ _ _ _ _ _
   | exact skiarearef51_index.mono _ _ _
   | exact skiarearef51_taken.mono _ _ _
   | exact LeO.none _
   | refine LeO.ite ?_ ?_
   | refine LeO.bind ?_ (fun _ => ?_)
def skiarearef51_Right.T10 : Bool × List (List Nat × List Nat) := (true, [([], []), ([], []), ([0, 1], [0, 1]), ([], []), ([3], [3]), ([2, 4], [2, 4]), ([5], [5]), ([6, 5], [6])])
def skiarearef51_Right.B10 : List Nat := [0, 0, 3, 0, 8, 31, 63, 127]
theorem skiarearef51_Right.tab10 : rtab .any (opsOf Try.f13 10) = skiarearef51_Right.T10 := by kernel_rfl
theorem skiarearef51_Right.bits10 : waitsOk skiarearef51_Right.T10.2 skiarearef51_Right.B10 = true := by kernel_rfl
def skiarearef51_Right.T12 : Bool × List (List Nat × List Nat) := (true, [([], []), ([0], [0]), ([1, 1], [1]), ([2], [2]), ([2], [2]), ([3, 4, 2], [2, 3, 4]), ([2], [2]), ([6, 2], [2, 6]), ([5, 7, 2, 2], [2, 5, 7]), ([2, 8], [2, 8]), ([9, 8], [9])])
def skiarearef51_Right.B12 : List Nat := [0, 1, 3, 7, 7, 31, 7, 71, 255, 511, 1023]
theorem skiarearef51_Right.tab12 : rtab .any (opsOf Try.f13 12) = skiarearef51_Right.T12 := by kernel_rfl
theorem skiarearef51_Right.bits12 : waitsOk skiarearef51_Right.T12.2 skiarearef51_Right.B12 = true := by kernel_rfl
set_option maxHeartbeats 8000000 in
set_option maxRecDepth 100000 in
theorem skiarearef51_Right.calls (k : Nat) (A0 : Option Addr) (c0 : Nat) (l0 : List (S30)) (r : Int) (w : World) (hr0 : Kd.C k30 w A0 l0.length l0) (hc0 : l0.length ≤ c0) (h : skiarearef51_Right.f k l0 = some r) :
  Calls Try.prog 13 #[.slice A0 l0.length c0] w fun e w' => e = .returned (.int .i64 r) ∧ Below w.heap.size w w' := by
 have hu30 := Try.underlying30; have hu28 := Try.underlying28; have HR0 := Aside0.mk hr0; have HC0 := Aside0.mk hc0; clear hr0 hc0; have HB := Aside0.mk (Below.refl w.heap.size w); have H : (if (l0.length : Int) > 64 then (some 4) else (skiarearef51_Right.l0 k l0 0)) = some r := h; clear h; by_cases c2 : (l0.length : Int) > 64
 ·
  rw [if_pos c2] at H
  have c2b0 : decide (64 < (l0.length : Int)) = true := decide_eq_true c2; have c2b1 : decide (64 < l0.length) = true := decide_eq_true (by omega); clear c2; obtain rfl := Option.some.inj H; go_enter Try.func13, Try.ntmps13
  go_wp2
  go_ret
  exact ⟨by first | rfl | (simp [errW_none, errW_some] <;> rfl) | (simp [*, errW_none, errW_some] <;> rfl), by repeat (first | (with_reducible first | exact HB.out | apply lA_ | apply lN_ | apply lD_) | exact HB.out)⟩
 ·
  rw [if_neg c2] at H
  have c2b0 : decide (64 < (l0.length : Int)) = false := decide_eq_false c2; have c2b1 : decide (64 < l0.length) = false := decide_eq_false (by omega); clear c2; have H' := Aside0.mk H; clear H; go_enter Try.func13, Try.ntmps13
  go_wp2
  go_loopg [3] k (fun kq v3 w' => ∃ (x3_1 : Int), v3 = .int .i64 x3_1 ∧ Aside0 (skiarearef51_Right.l0 kq l0 x3_1 = some r) ∧ Aside0 (kq ≤ k) ∧ Aside0 (Below w.heap.size w w'))
  case atStart => exact ⟨(0), (by first | rfl | (simp; done) | (simp [*]; done)), H', ⟨Nat.le_refl _⟩, ⟨by repeat (first | (with_reducible first | exact HB.out | apply lA_ | apply lN_ | apply lD_) | exact HB.out)⟩⟩
  case round =>
   clear H'; try clear c1
   try clear c2
   try clear c2b0
   try clear c2b1
   try clear p2
   obtain ⟨x3_1, rfl, HA, HK1, HB⟩ := hrel
   cases gk with
   | zero => exact absurd HA.out (by simp [skiarearef51_Right.l0])
   | succ k1 =>
    have H := HA.out; clear HA; simp only [skiarearef51_Right.l0] at H
    by_cases c3 : x3_1 < (l0.length : Int)
    ·
     rw [if_pos c3] at H
     have c3b0 : decide (x3_1 < (l0.length : Int)) = true := decide_eq_true c3; clear c3; by_cases c4 : 0 ≤ x3_1
     ·
      rw [if_pos c4] at H
      have c4b0 : decide (0 ≤ x3_1) = true := decide_eq_true c4; clear c4; have HC5 := Aside0.mk H; clear H; have p213 : 0 ≤ (x3_1 : Int) := of_decide_eq_true (by first | (with_reducible assumption) | assumption); have q213 : x3_1 < (l0.length : Int) := of_decide_eq_true (by first | (with_reducible assumption) | assumption); obtain ⟨ad213, e213, hx213_0, hx213_1, hx213_2, hx213_3, hx213_4, hx213_5, hx213_6⟩ := at_T30 HR0.out x3_1 p213 q213
      cases e213
      replace hx213_0 := (HB.out.cell (World.block_lt_of_cell? w _ hx213_0)).trans hx213_0; replace hx213_1 := (HB.out.cell (World.block_lt_of_cell? w _ hx213_1)).trans hx213_1; replace hx213_2 := (HB.out.cell (World.block_lt_of_cell? w _ hx213_2)).trans hx213_2; replace hx213_3 := (HB.out.cell (World.block_lt_of_cell? w _ hx213_3)).trans hx213_3; replace hx213_4 := (HB.out.cell (World.block_lt_of_cell? w _ hx213_4)).trans hx213_4; replace hx213_5 := (HB.out.cell (World.block_lt_of_cell? w _ hx213_5)).trans hx213_5; replace hx213_6 := (HB.out.cell (World.block_lt_of_cell? w _ hx213_6)).trans hx213_6; replace p213 := eq_true p213; replace q213 := eq_true q213
      go_upto_region 8 with (first | ((with_reducible refine gate_dst (N := 4) rfl ?_); refine box_event ?hg (N := 4) ?hd (cs := #[.int .i64 0, .int .i64 0, .int .i64 0, .int .i64 0, .int .i64 0, .int .i64 0, .int .i64 0]) (t := 30) ?hr ?_; (case hd => rfl); (case hg => rfl); (case hr => first | (go_simp; done) | (go_simp; rfl)); intro gb214 hg w6 hbox hb; have n0_ := Aside0.mk (below_step (by repeat (first | (with_reducible first | exact HB.out | apply lA_ | apply lN_ | apply lD_) | exact HB.out)) hb); have n1_ := Aside0.mk (hbox); have n2_ := Aside0.mk ((by rw [hg]; exact (below_size (by repeat (first | (with_reducible first | exact HB.out | apply lA_ | apply lN_ | apply lD_) | exact HB.out))) : w.heap.size ≤ gb214)); have n3_ := Aside0.mk ((by rw [hg]; exact (below_size (by repeat (first | (with_reducible first | exact HB.out | apply lA_ | apply lN_ | apply lD_) | exact HB.out))) : w.heap.size ≤ gb214)); clear HB; have HB := n0_; have BK214 := n1_; have GW214 := n2_; have GE214 := n3_; clear n0_ n1_ n2_ n3_; clear hb hbox hg; have hcz7_0 : w6.cell? ⟨gb214, 0, none⟩ = some (.int .i64 0) := (blk_cell BK214.out 0).trans rfl; have hcz7_1 : w6.cell? ⟨gb214, 1, none⟩ = some (.int .i64 0) := (blk_cell BK214.out 1).trans rfl; have hcz7_2 : w6.cell? ⟨gb214, 2, none⟩ = some (.int .i64 0) := (blk_cell BK214.out 2).trans rfl; have hcz7_3 : w6.cell? ⟨gb214, 3, none⟩ = some (.int .i64 0) := (blk_cell BK214.out 3).trans rfl; have hcz7_4 : w6.cell? ⟨gb214, 4, none⟩ = some (.int .i64 0) := (blk_cell BK214.out 4).trans rfl; have hcz7_5 : w6.cell? ⟨gb214, 5, none⟩ = some (.int .i64 0) := (blk_cell BK214.out 5).trans rfl; have hcz7_6 : w6.cell? ⟨gb214, 6, none⟩ = some (.int .i64 0) := (blk_cell BK214.out 6).trans rfl; have hfz7_0 := blk_frozen BK214.out 0; have hfz7_1 := blk_frozen BK214.out 1; have hfz7_2 := blk_frozen BK214.out 2; have hfz7_3 := blk_frozen BK214.out 3; have hfz7_4 := blk_frozen BK214.out 4; have hfz7_5 := blk_frozen BK214.out 5; have hfz7_6 := blk_frozen BK214.out 6) | ((with_reducible refine gate_dst (N := 5) rfl ?_); refine box_event ?hg (N := 5) ?hd (cs := #[.int .i64 0, .int .i64 0]) (t := 28) ?hr ?_; (case hd => rfl); (case hg => rfl); (case hr => first | (go_simp; done) | (go_simp; rfl)); intro gb215 hg w8 hbox hb; have n0_ := Aside0.mk (blk_below (g := gb214) (o := .cells #[.int .i64 ((rd_T30 l0 x3_1).f0), .int .i64 ((rd_T30 l0 x3_1).f1), .int .i64 ((rd_T30 l0 x3_1).f2), .int .i64 ((rd_T30 l0 x3_1).f3), .int .i64 ((rd_T30 l0 x3_1).f4), .int .i64 ((rd_T30 l0 x3_1).f5.f0), .int .i64 ((rd_T30 l0 x3_1).f5.f1)] 30 (0, 0)) (by (with_reducible repeat (first | refine bN_ ?_ _ | refine bD_ ?_ | refine bA_ ?_ _)); refine blk_put (cs := #[.int .i64 ((rd_T30 l0 x3_1).f0), .int .i64 ((rd_T30 l0 x3_1).f1), .int .i64 ((rd_T30 l0 x3_1).f2), .int .i64 ((rd_T30 l0 x3_1).f3), .int .i64 ((rd_T30 l0 x3_1).f4), .int .i64 ((rd_T30 l0 x3_1).f5.f0), .int .i64 0]) ?_ 6 _ rfl; (with_reducible repeat (first | refine bN_ ?_ _ | refine bD_ ?_ | refine bA_ ?_ _)); refine blk_put (cs := #[.int .i64 ((rd_T30 l0 x3_1).f0), .int .i64 ((rd_T30 l0 x3_1).f1), .int .i64 ((rd_T30 l0 x3_1).f2), .int .i64 ((rd_T30 l0 x3_1).f3), .int .i64 ((rd_T30 l0 x3_1).f4), .int .i64 0, .int .i64 0]) ?_ 5 _ rfl; (with_reducible repeat (first | refine bN_ ?_ _ | refine bD_ ?_ | refine bA_ ?_ _)); refine blk_put (cs := #[.int .i64 ((rd_T30 l0 x3_1).f0), .int .i64 ((rd_T30 l0 x3_1).f1), .int .i64 ((rd_T30 l0 x3_1).f2), .int .i64 ((rd_T30 l0 x3_1).f3), .int .i64 0, .int .i64 0, .int .i64 0]) ?_ 4 _ rfl; (with_reducible repeat (first | refine bN_ ?_ _ | refine bD_ ?_ | refine bA_ ?_ _)); refine blk_put (cs := #[.int .i64 ((rd_T30 l0 x3_1).f0), .int .i64 ((rd_T30 l0 x3_1).f1), .int .i64 ((rd_T30 l0 x3_1).f2), .int .i64 0, .int .i64 0, .int .i64 0, .int .i64 0]) ?_ 3 _ rfl; (with_reducible repeat (first | refine bN_ ?_ _ | refine bD_ ?_ | refine bA_ ?_ _)); refine blk_put (cs := #[.int .i64 ((rd_T30 l0 x3_1).f0), .int .i64 ((rd_T30 l0 x3_1).f1), .int .i64 0, .int .i64 0, .int .i64 0, .int .i64 0, .int .i64 0]) ?_ 2 _ rfl; (with_reducible repeat (first | refine bN_ ?_ _ | refine bD_ ?_ | refine bA_ ?_ _)); refine blk_put (cs := #[.int .i64 ((rd_T30 l0 x3_1).f0), .int .i64 0, .int .i64 0, .int .i64 0, .int .i64 0, .int .i64 0, .int .i64 0]) ?_ 1 _ rfl; (with_reducible repeat (first | refine bN_ ?_ _ | refine bD_ ?_ | refine bA_ ?_ _)); refine blk_put (cs := #[.int .i64 0, .int .i64 0, .int .i64 0, .int .i64 0, .int .i64 0, .int .i64 0, .int .i64 0]) ?_ 0 _ rfl; (with_reducible repeat (first | refine bN_ ?_ _ | refine bD_ ?_ | refine bA_ ?_ _)); exact BK214.out) hb); have n1_ := Aside0.mk (below_step (by repeat (first | (with_reducible first | exact HB.out | apply lA_ | apply lN_ | apply lD_ | refine lS_ ?_ GE214.out) | exact HB.out)) hb); have n2_ := Aside0.mk (hbox); have n3_ := Aside0.mk ((by rw [hg]; exact (below_size (by repeat (first | (with_reducible first | exact HB.out | apply lA_ | apply lN_ | apply lD_ | refine lS_ ?_ GE214.out) | exact HB.out))) : w.heap.size ≤ gb215)); have n4_ := Aside0.mk ((by rw [hg]; exact (below_size (by repeat (first | (with_reducible first | exact HB.out | apply lA_ | apply lN_ | apply lD_ | refine lS_ ?_ GE214.out) | exact HB.out))) : w.heap.size ≤ gb215)); have n5_ := Aside0.mk ((by rw [hg]; exact Nat.ne_of_lt (blk_lt (g := gb214) (o := .cells #[.int .i64 ((rd_T30 l0 x3_1).f0), .int .i64 ((rd_T30 l0 x3_1).f1), .int .i64 ((rd_T30 l0 x3_1).f2), .int .i64 ((rd_T30 l0 x3_1).f3), .int .i64 ((rd_T30 l0 x3_1).f4), .int .i64 ((rd_T30 l0 x3_1).f5.f0), .int .i64 ((rd_T30 l0 x3_1).f5.f1)] 30 (0, 0)) (by (with_reducible repeat (first | refine bN_ ?_ _ | refine bD_ ?_ | refine bA_ ?_ _)); refine blk_put (cs := #[.int .i64 ((rd_T30 l0 x3_1).f0), .int .i64 ((rd_T30 l0 x3_1).f1), .int .i64 ((rd_T30 l0 x3_1).f2), .int .i64 ((rd_T30 l0 x3_1).f3), .int .i64 ((rd_T30 l0 x3_1).f4), .int .i64 ((rd_T30 l0 x3_1).f5.f0), .int .i64 0]) ?_ 6 _ rfl; (with_reducible repeat (first | refine bN_ ?_ _ | refine bD_ ?_ | refine bA_ ?_ _)); refine blk_put (cs := #[.int .i64 ((rd_T30 l0 x3_1).f0), .int .i64 ((rd_T30 l0 x3_1).f1), .int .i64 ((rd_T30 l0 x3_1).f2), .int .i64 ((rd_T30 l0 x3_1).f3), .int .i64 ((rd_T30 l0 x3_1).f4), .int .i64 0, .int .i64 0]) ?_ 5 _ rfl; (with_reducible repeat (first | refine bN_ ?_ _ | refine bD_ ?_ | refine bA_ ?_ _)); refine blk_put (cs := #[.int .i64 ((rd_T30 l0 x3_1).f0), .int .i64 ((rd_T30 l0 x3_1).f1), .int .i64 ((rd_T30 l0 x3_1).f2), .int .i64 ((rd_T30 l0 x3_1).f3), .int .i64 0, .int .i64 0, .int .i64 0]) ?_ 4 _ rfl; (with_reducible repeat (first | refine bN_ ?_ _ | refine bD_ ?_ | refine bA_ ?_ _)); refine blk_put (cs := #[.int .i64 ((rd_T30 l0 x3_1).f0), .int .i64 ((rd_T30 l0 x3_1).f1), .int .i64 ((rd_T30 l0 x3_1).f2), .int .i64 0, .int .i64 0, .int .i64 0, .int .i64 0]) ?_ 3 _ rfl; (with_reducible repeat (first | refine bN_ ?_ _ | refine bD_ ?_ | refine bA_ ?_ _)); refine blk_put (cs := #[.int .i64 ((rd_T30 l0 x3_1).f0), .int .i64 ((rd_T30 l0 x3_1).f1), .int .i64 0, .int .i64 0, .int .i64 0, .int .i64 0, .int .i64 0]) ?_ 2 _ rfl; (with_reducible repeat (first | refine bN_ ?_ _ | refine bD_ ?_ | refine bA_ ?_ _)); refine blk_put (cs := #[.int .i64 ((rd_T30 l0 x3_1).f0), .int .i64 0, .int .i64 0, .int .i64 0, .int .i64 0, .int .i64 0, .int .i64 0]) ?_ 1 _ rfl; (with_reducible repeat (first | refine bN_ ?_ _ | refine bD_ ?_ | refine bA_ ?_ _)); refine blk_put (cs := #[.int .i64 0, .int .i64 0, .int .i64 0, .int .i64 0, .int .i64 0, .int .i64 0, .int .i64 0]) ?_ 0 _ rfl; (with_reducible repeat (first | refine bN_ ?_ _ | refine bD_ ?_ | refine bA_ ?_ _)); exact BK214.out)) : gb214 ≠ gb215)); have n6_ := Aside0.mk ((by rw [hg]; exact Nat.ne_of_gt (blk_lt (g := gb214) (o := .cells #[.int .i64 ((rd_T30 l0 x3_1).f0), .int .i64 ((rd_T30 l0 x3_1).f1), .int .i64 ((rd_T30 l0 x3_1).f2), .int .i64 ((rd_T30 l0 x3_1).f3), .int .i64 ((rd_T30 l0 x3_1).f4), .int .i64 ((rd_T30 l0 x3_1).f5.f0), .int .i64 ((rd_T30 l0 x3_1).f5.f1)] 30 (0, 0)) (by (with_reducible repeat (first | refine bN_ ?_ _ | refine bD_ ?_ | refine bA_ ?_ _)); refine blk_put (cs := #[.int .i64 ((rd_T30 l0 x3_1).f0), .int .i64 ((rd_T30 l0 x3_1).f1), .int .i64 ((rd_T30 l0 x3_1).f2), .int .i64 ((rd_T30 l0 x3_1).f3), .int .i64 ((rd_T30 l0 x3_1).f4), .int .i64 ((rd_T30 l0 x3_1).f5.f0), .int .i64 0]) ?_ 6 _ rfl; (with_reducible repeat (first | refine bN_ ?_ _ | refine bD_ ?_ | refine bA_ ?_ _)); refine blk_put (cs := #[.int .i64 ((rd_T30 l0 x3_1).f0), .int .i64 ((rd_T30 l0 x3_1).f1), .int .i64 ((rd_T30 l0 x3_1).f2), .int .i64 ((rd_T30 l0 x3_1).f3), .int .i64 ((rd_T30 l0 x3_1).f4), .int .i64 0, .int .i64 0]) ?_ 5 _ rfl; (with_reducible repeat (first | refine bN_ ?_ _ | refine bD_ ?_ | refine bA_ ?_ _)); refine blk_put (cs := #[.int .i64 ((rd_T30 l0 x3_1).f0), .int .i64 ((rd_T30 l0 x3_1).f1), .int .i64 ((rd_T30 l0 x3_1).f2), .int .i64 ((rd_T30 l0 x3_1).f3), .int .i64 0, .int .i64 0, .int .i64 0]) ?_ 4 _ rfl; (with_reducible repeat (first | refine bN_ ?_ _ | refine bD_ ?_ | refine bA_ ?_ _)); refine blk_put (cs := #[.int .i64 ((rd_T30 l0 x3_1).f0), .int .i64 ((rd_T30 l0 x3_1).f1), .int .i64 ((rd_T30 l0 x3_1).f2), .int .i64 0, .int .i64 0, .int .i64 0, .int .i64 0]) ?_ 3 _ rfl; (with_reducible repeat (first | refine bN_ ?_ _ | refine bD_ ?_ | refine bA_ ?_ _)); refine blk_put (cs := #[.int .i64 ((rd_T30 l0 x3_1).f0), .int .i64 ((rd_T30 l0 x3_1).f1), .int .i64 0, .int .i64 0, .int .i64 0, .int .i64 0, .int .i64 0]) ?_ 2 _ rfl; (with_reducible repeat (first | refine bN_ ?_ _ | refine bD_ ?_ | refine bA_ ?_ _)); refine blk_put (cs := #[.int .i64 ((rd_T30 l0 x3_1).f0), .int .i64 0, .int .i64 0, .int .i64 0, .int .i64 0, .int .i64 0, .int .i64 0]) ?_ 1 _ rfl; (with_reducible repeat (first | refine bN_ ?_ _ | refine bD_ ?_ | refine bA_ ?_ _)); refine blk_put (cs := #[.int .i64 0, .int .i64 0, .int .i64 0, .int .i64 0, .int .i64 0, .int .i64 0, .int .i64 0]) ?_ 0 _ rfl; (with_reducible repeat (first | refine bN_ ?_ _ | refine bD_ ?_ | refine bA_ ?_ _)); exact BK214.out)) : gb215 ≠ gb214)); clear BK214; clear HB; have BK214 := n0_; have HB := n1_; have BK215 := n2_; have GW215 := n3_; have GE215 := n4_; have NB214_215 := n5_; have NB215_214 := n6_; clear n0_ n1_ n2_ n3_ n4_ n5_ n6_; clear hb hbox hg; have hnb9 := NB215_214.out; have hnc9 := NB214_215.out; have hcz10_0 : w8.cell? ⟨gb215, 0, none⟩ = some (.int .i64 0) := (blk_cell BK215.out 0).trans rfl; have hcz10_1 : w8.cell? ⟨gb215, 1, none⟩ = some (.int .i64 0) := (blk_cell BK215.out 1).trans rfl; have hfz10_0 := blk_frozen BK215.out 0; have hfz10_1 := blk_frozen BK215.out 1))
      (try simp only [Act.put, List.setIfInBounds_toArray, List.set_cons_zero, List.set_cons_succ])
      go_cut [21] (fun v21 wc => ∃ (kq : Nat) (x21_4 : Bool), v21 = .bool x21_4 ∧ Aside0 (skiarearef51_Right.j1 kq l0 x3_1 x21_4 ((rd_T30 l0 x3_1).f0) ((rd_T30 l0 x3_1).f1) ((rd_T30 l0 x3_1).f2) ((rd_T30 l0 x3_1).f3) ((rd_T30 l0 x3_1).f4) ((rd_T30 l0 x3_1).f5.f0) ((rd_T30 l0 x3_1).f5.f1) = some r) ∧ Aside0 (kq ≤ k1) ∧ Aside0 (wc.heap[gb214]? = some (.cells #[.int .i64 ((rd_T30 l0 x3_1).f0), .int .i64 ((rd_T30 l0 x3_1).f1), .int .i64 ((rd_T30 l0 x3_1).f2), .int .i64 ((rd_T30 l0 x3_1).f3), .int .i64 ((rd_T30 l0 x3_1).f4), .int .i64 ((rd_T30 l0 x3_1).f5.f0), .int .i64 ((rd_T30 l0 x3_1).f5.f1)] 30 (0, 0))) ∧ Aside0 (wc.heap[gb215]? = some (.cells #[.int .i64 ((rd_T30 l0 x3_1).f5.f0), .int .i64 ((rd_T30 l0 x3_1).f5.f1)] 28 (0, 0))) ∧ Aside0 (Below w.heap.size w wc))
      case first =>
       have H := HC5.out; clear HC5; replace H := Option.bind_eq_some_iff.mp H; obtain ⟨t216, A110, H⟩ := H; replace H : (if t216 = true then ((skiarearef51_in.f ((rd_T30 l0 x3_1).f1) 1 9999).bind fun t217 => (if t217 = true then ((skiarearef51_in.f ((rd_T30 l0 x3_1).f2) 1 9999).bind fun t218 => (if t218 = true then ((skiarearef51_in.f ((rd_T30 l0 x3_1).f3) 0 6).bind fun t219 => (if t219 = true then ((skiarearef51_in.f ((rd_T30 l0 x3_1).f4) 0 20000000).bind fun t220 => (if t220 = true then (if ((rd_T30 l0 x3_1).f5.f0) < 0 then (skiarearef51_Right.j1 k1 l0 x3_1 true ((rd_T30 l0 x3_1).f0) ((rd_T30 l0 x3_1).f1) ((rd_T30 l0 x3_1).f2) ((rd_T30 l0 x3_1).f3) ((rd_T30 l0 x3_1).f4) ((rd_T30 l0 x3_1).f5.f0) ((rd_T30 l0 x3_1).f5.f1)) else (if ((rd_T30 l0 x3_1).f5.f0) ≥ ((rd_T30 l0 x3_1).f5.f1) then (skiarearef51_Right.j1 k1 l0 x3_1 true ((rd_T30 l0 x3_1).f0) ((rd_T30 l0 x3_1).f1) ((rd_T30 l0 x3_1).f2) ((rd_T30 l0 x3_1).f3) ((rd_T30 l0 x3_1).f4) ((rd_T30 l0 x3_1).f5.f0) ((rd_T30 l0 x3_1).f5.f1)) else (skiarearef51_Right.j1 k1 l0 x3_1 (decide (((rd_T30 l0 x3_1).f5.f1) > 20000000)) ((rd_T30 l0 x3_1).f0) ((rd_T30 l0 x3_1).f1) ((rd_T30 l0 x3_1).f2) ((rd_T30 l0 x3_1).f3) ((rd_T30 l0 x3_1).f4) ((rd_T30 l0 x3_1).f5.f0) ((rd_T30 l0 x3_1).f5.f1)))) else (skiarearef51_Right.j1 k1 l0 x3_1 true ((rd_T30 l0 x3_1).f0) ((rd_T30 l0 x3_1).f1) ((rd_T30 l0 x3_1).f2) ((rd_T30 l0 x3_1).f3) ((rd_T30 l0 x3_1).f4) ((rd_T30 l0 x3_1).f5.f0) ((rd_T30 l0 x3_1).f5.f1)))) else (skiarearef51_Right.j1 k1 l0 x3_1 true ((rd_T30 l0 x3_1).f0) ((rd_T30 l0 x3_1).f1) ((rd_T30 l0 x3_1).f2) ((rd_T30 l0 x3_1).f3) ((rd_T30 l0 x3_1).f4) ((rd_T30 l0 x3_1).f5.f0) ((rd_T30 l0 x3_1).f5.f1)))) else (skiarearef51_Right.j1 k1 l0 x3_1 true ((rd_T30 l0 x3_1).f0) ((rd_T30 l0 x3_1).f1) ((rd_T30 l0 x3_1).f2) ((rd_T30 l0 x3_1).f3) ((rd_T30 l0 x3_1).f4) ((rd_T30 l0 x3_1).f5.f0) ((rd_T30 l0 x3_1).f5.f1)))) else (skiarearef51_Right.j1 k1 l0 x3_1 true ((rd_T30 l0 x3_1).f0) ((rd_T30 l0 x3_1).f1) ((rd_T30 l0 x3_1).f2) ((rd_T30 l0 x3_1).f3) ((rd_T30 l0 x3_1).f4) ((rd_T30 l0 x3_1).f5.f0) ((rd_T30 l0 x3_1).f5.f1)))) else (skiarearef51_Right.j1 k1 l0 x3_1 true ((rd_T30 l0 x3_1).f0) ((rd_T30 l0 x3_1).f1) ((rd_T30 l0 x3_1).f2) ((rd_T30 l0 x3_1).f3) ((rd_T30 l0 x3_1).f4) ((rd_T30 l0 x3_1).f5.f0) ((rd_T30 l0 x3_1).f5.f1))) = some r := H; have A11 := Aside0.mk A110; clear A110; by_cases c12 : t216 = true
       ·
        subst c12; have H1 : ((skiarearef51_in.f ((rd_T30 l0 x3_1).f1) 1 9999).bind fun t217 => (if t217 = true then ((skiarearef51_in.f ((rd_T30 l0 x3_1).f2) 1 9999).bind fun t218 => (if t218 = true then ((skiarearef51_in.f ((rd_T30 l0 x3_1).f3) 0 6).bind fun t219 => (if t219 = true then ((skiarearef51_in.f ((rd_T30 l0 x3_1).f4) 0 20000000).bind fun t220 => (if t220 = true then (if ((rd_T30 l0 x3_1).f5.f0) < 0 then (skiarearef51_Right.j1 k1 l0 x3_1 true ((rd_T30 l0 x3_1).f0) ((rd_T30 l0 x3_1).f1) ((rd_T30 l0 x3_1).f2) ((rd_T30 l0 x3_1).f3) ((rd_T30 l0 x3_1).f4) ((rd_T30 l0 x3_1).f5.f0) ((rd_T30 l0 x3_1).f5.f1)) else (if ((rd_T30 l0 x3_1).f5.f0) ≥ ((rd_T30 l0 x3_1).f5.f1) then (skiarearef51_Right.j1 k1 l0 x3_1 true ((rd_T30 l0 x3_1).f0) ((rd_T30 l0 x3_1).f1) ((rd_T30 l0 x3_1).f2) ((rd_T30 l0 x3_1).f3) ((rd_T30 l0 x3_1).f4) ((rd_T30 l0 x3_1).f5.f0) ((rd_T30 l0 x3_1).f5.f1)) else (skiarearef51_Right.j1 k1 l0 x3_1 (decide (((rd_T30 l0 x3_1).f5.f1) > 20000000)) ((rd_T30 l0 x3_1).f0) ((rd_T30 l0 x3_1).f1) ((rd_T30 l0 x3_1).f2) ((rd_T30 l0 x3_1).f3) ((rd_T30 l0 x3_1).f4) ((rd_T30 l0 x3_1).f5.f0) ((rd_T30 l0 x3_1).f5.f1)))) else (skiarearef51_Right.j1 k1 l0 x3_1 true ((rd_T30 l0 x3_1).f0) ((rd_T30 l0 x3_1).f1) ((rd_T30 l0 x3_1).f2) ((rd_T30 l0 x3_1).f3) ((rd_T30 l0 x3_1).f4) ((rd_T30 l0 x3_1).f5.f0) ((rd_T30 l0 x3_1).f5.f1)))) else (skiarearef51_Right.j1 k1 l0 x3_1 true ((rd_T30 l0 x3_1).f0) ((rd_T30 l0 x3_1).f1) ((rd_T30 l0 x3_1).f2) ((rd_T30 l0 x3_1).f3) ((rd_T30 l0 x3_1).f4) ((rd_T30 l0 x3_1).f5.f0) ((rd_T30 l0 x3_1).f5.f1)))) else (skiarearef51_Right.j1 k1 l0 x3_1 true ((rd_T30 l0 x3_1).f0) ((rd_T30 l0 x3_1).f1) ((rd_T30 l0 x3_1).f2) ((rd_T30 l0 x3_1).f3) ((rd_T30 l0 x3_1).f4) ((rd_T30 l0 x3_1).f5.f0) ((rd_T30 l0 x3_1).f5.f1)))) else (skiarearef51_Right.j1 k1 l0 x3_1 true ((rd_T30 l0 x3_1).f0) ((rd_T30 l0 x3_1).f1) ((rd_T30 l0 x3_1).f2) ((rd_T30 l0 x3_1).f3) ((rd_T30 l0 x3_1).f4) ((rd_T30 l0 x3_1).f5.f0) ((rd_T30 l0 x3_1).f5.f1)))) = some r := by rw [if_pos rfl] at H; exact H
        clear H; have H := H1; clear H1; replace H := Option.bind_eq_some_iff.mp H; obtain ⟨t217, A130, H⟩ := H; replace H : (if t217 = true then ((skiarearef51_in.f ((rd_T30 l0 x3_1).f2) 1 9999).bind fun t218 => (if t218 = true then ((skiarearef51_in.f ((rd_T30 l0 x3_1).f3) 0 6).bind fun t219 => (if t219 = true then ((skiarearef51_in.f ((rd_T30 l0 x3_1).f4) 0 20000000).bind fun t220 => (if t220 = true then (if ((rd_T30 l0 x3_1).f5.f0) < 0 then (skiarearef51_Right.j1 k1 l0 x3_1 true ((rd_T30 l0 x3_1).f0) ((rd_T30 l0 x3_1).f1) ((rd_T30 l0 x3_1).f2) ((rd_T30 l0 x3_1).f3) ((rd_T30 l0 x3_1).f4) ((rd_T30 l0 x3_1).f5.f0) ((rd_T30 l0 x3_1).f5.f1)) else (if ((rd_T30 l0 x3_1).f5.f0) ≥ ((rd_T30 l0 x3_1).f5.f1) then (skiarearef51_Right.j1 k1 l0 x3_1 true ((rd_T30 l0 x3_1).f0) ((rd_T30 l0 x3_1).f1) ((rd_T30 l0 x3_1).f2) ((rd_T30 l0 x3_1).f3) ((rd_T30 l0 x3_1).f4) ((rd_T30 l0 x3_1).f5.f0) ((rd_T30 l0 x3_1).f5.f1)) else (skiarearef51_Right.j1 k1 l0 x3_1 (decide (((rd_T30 l0 x3_1).f5.f1) > 20000000)) ((rd_T30 l0 x3_1).f0) ((rd_T30 l0 x3_1).f1) ((rd_T30 l0 x3_1).f2) ((rd_T30 l0 x3_1).f3) ((rd_T30 l0 x3_1).f4) ((rd_T30 l0 x3_1).f5.f0) ((rd_T30 l0 x3_1).f5.f1)))) else (skiarearef51_Right.j1 k1 l0 x3_1 true ((rd_T30 l0 x3_1).f0) ((rd_T30 l0 x3_1).f1) ((rd_T30 l0 x3_1).f2) ((rd_T30 l0 x3_1).f3) ((rd_T30 l0 x3_1).f4) ((rd_T30 l0 x3_1).f5.f0) ((rd_T30 l0 x3_1).f5.f1)))) else (skiarearef51_Right.j1 k1 l0 x3_1 true ((rd_T30 l0 x3_1).f0) ((rd_T30 l0 x3_1).f1) ((rd_T30 l0 x3_1).f2) ((rd_T30 l0 x3_1).f3) ((rd_T30 l0 x3_1).f4) ((rd_T30 l0 x3_1).f5.f0) ((rd_T30 l0 x3_1).f5.f1)))) else (skiarearef51_Right.j1 k1 l0 x3_1 true ((rd_T30 l0 x3_1).f0) ((rd_T30 l0 x3_1).f1) ((rd_T30 l0 x3_1).f2) ((rd_T30 l0 x3_1).f3) ((rd_T30 l0 x3_1).f4) ((rd_T30 l0 x3_1).f5.f0) ((rd_T30 l0 x3_1).f5.f1)))) else (skiarearef51_Right.j1 k1 l0 x3_1 true ((rd_T30 l0 x3_1).f0) ((rd_T30 l0 x3_1).f1) ((rd_T30 l0 x3_1).f2) ((rd_T30 l0 x3_1).f3) ((rd_T30 l0 x3_1).f4) ((rd_T30 l0 x3_1).f5.f0) ((rd_T30 l0 x3_1).f5.f1))) = some r := H; have A13 := Aside0.mk A130; clear A130; by_cases c14 : t217 = true
        ·
         subst c14; have H1 : ((skiarearef51_in.f ((rd_T30 l0 x3_1).f2) 1 9999).bind fun t218 => (if t218 = true then ((skiarearef51_in.f ((rd_T30 l0 x3_1).f3) 0 6).bind fun t219 => (if t219 = true then ((skiarearef51_in.f ((rd_T30 l0 x3_1).f4) 0 20000000).bind fun t220 => (if t220 = true then (if ((rd_T30 l0 x3_1).f5.f0) < 0 then (skiarearef51_Right.j1 k1 l0 x3_1 true ((rd_T30 l0 x3_1).f0) ((rd_T30 l0 x3_1).f1) ((rd_T30 l0 x3_1).f2) ((rd_T30 l0 x3_1).f3) ((rd_T30 l0 x3_1).f4) ((rd_T30 l0 x3_1).f5.f0) ((rd_T30 l0 x3_1).f5.f1)) else (if ((rd_T30 l0 x3_1).f5.f0) ≥ ((rd_T30 l0 x3_1).f5.f1) then (skiarearef51_Right.j1 k1 l0 x3_1 true ((rd_T30 l0 x3_1).f0) ((rd_T30 l0 x3_1).f1) ((rd_T30 l0 x3_1).f2) ((rd_T30 l0 x3_1).f3) ((rd_T30 l0 x3_1).f4) ((rd_T30 l0 x3_1).f5.f0) ((rd_T30 l0 x3_1).f5.f1)) else (skiarearef51_Right.j1 k1 l0 x3_1 (decide (((rd_T30 l0 x3_1).f5.f1) > 20000000)) ((rd_T30 l0 x3_1).f0) ((rd_T30 l0 x3_1).f1) ((rd_T30 l0 x3_1).f2) ((rd_T30 l0 x3_1).f3) ((rd_T30 l0 x3_1).f4) ((rd_T30 l0 x3_1).f5.f0) ((rd_T30 l0 x3_1).f5.f1)))) else (skiarearef51_Right.j1 k1 l0 x3_1 true ((rd_T30 l0 x3_1).f0) ((rd_T30 l0 x3_1).f1) ((rd_T30 l0 x3_1).f2) ((rd_T30 l0 x3_1).f3) ((rd_T30 l0 x3_1).f4) ((rd_T30 l0 x3_1).f5.f0) ((rd_T30 l0 x3_1).f5.f1)))) else (skiarearef51_Right.j1 k1 l0 x3_1 true ((rd_T30 l0 x3_1).f0) ((rd_T30 l0 x3_1).f1) ((rd_T30 l0 x3_1).f2) ((rd_T30 l0 x3_1).f3) ((rd_T30 l0 x3_1).f4) ((rd_T30 l0 x3_1).f5.f0) ((rd_T30 l0 x3_1).f5.f1)))) else (skiarearef51_Right.j1 k1 l0 x3_1 true ((rd_T30 l0 x3_1).f0) ((rd_T30 l0 x3_1).f1) ((rd_T30 l0 x3_1).f2) ((rd_T30 l0 x3_1).f3) ((rd_T30 l0 x3_1).f4) ((rd_T30 l0 x3_1).f5.f0) ((rd_T30 l0 x3_1).f5.f1)))) = some r := by rw [if_pos rfl] at H; exact H
         clear H; have H := H1; clear H1; replace H := Option.bind_eq_some_iff.mp H; obtain ⟨t218, A150, H⟩ := H; replace H : (if t218 = true then ((skiarearef51_in.f ((rd_T30 l0 x3_1).f3) 0 6).bind fun t219 => (if t219 = true then ((skiarearef51_in.f ((rd_T30 l0 x3_1).f4) 0 20000000).bind fun t220 => (if t220 = true then (if ((rd_T30 l0 x3_1).f5.f0) < 0 then (skiarearef51_Right.j1 k1 l0 x3_1 true ((rd_T30 l0 x3_1).f0) ((rd_T30 l0 x3_1).f1) ((rd_T30 l0 x3_1).f2) ((rd_T30 l0 x3_1).f3) ((rd_T30 l0 x3_1).f4) ((rd_T30 l0 x3_1).f5.f0) ((rd_T30 l0 x3_1).f5.f1)) else (if ((rd_T30 l0 x3_1).f5.f0) ≥ ((rd_T30 l0 x3_1).f5.f1) then (skiarearef51_Right.j1 k1 l0 x3_1 true ((rd_T30 l0 x3_1).f0) ((rd_T30 l0 x3_1).f1) ((rd_T30 l0 x3_1).f2) ((rd_T30 l0 x3_1).f3) ((rd_T30 l0 x3_1).f4) ((rd_T30 l0 x3_1).f5.f0) ((rd_T30 l0 x3_1).f5.f1)) else (skiarearef51_Right.j1 k1 l0 x3_1 (decide (((rd_T30 l0 x3_1).f5.f1) > 20000000)) ((rd_T30 l0 x3_1).f0) ((rd_T30 l0 x3_1).f1) ((rd_T30 l0 x3_1).f2) ((rd_T30 l0 x3_1).f3) ((rd_T30 l0 x3_1).f4) ((rd_T30 l0 x3_1).f5.f0) ((rd_T30 l0 x3_1).f5.f1)))) else (skiarearef51_Right.j1 k1 l0 x3_1 true ((rd_T30 l0 x3_1).f0) ((rd_T30 l0 x3_1).f1) ((rd_T30 l0 x3_1).f2) ((rd_T30 l0 x3_1).f3) ((rd_T30 l0 x3_1).f4) ((rd_T30 l0 x3_1).f5.f0) ((rd_T30 l0 x3_1).f5.f1)))) else (skiarearef51_Right.j1 k1 l0 x3_1 true ((rd_T30 l0 x3_1).f0) ((rd_T30 l0 x3_1).f1) ((rd_T30 l0 x3_1).f2) ((rd_T30 l0 x3_1).f3) ((rd_T30 l0 x3_1).f4) ((rd_T30 l0 x3_1).f5.f0) ((rd_T30 l0 x3_1).f5.f1)))) else (skiarearef51_Right.j1 k1 l0 x3_1 true ((rd_T30 l0 x3_1).f0) ((rd_T30 l0 x3_1).f1) ((rd_T30 l0 x3_1).f2) ((rd_T30 l0 x3_1).f3) ((rd_T30 l0 x3_1).f4) ((rd_T30 l0 x3_1).f5.f0) ((rd_T30 l0 x3_1).f5.f1))) = some r := H; have A15 := Aside0.mk A150; clear A150; by_cases c16 : t218 = true
         ·
          subst c16; have H1 : ((skiarearef51_in.f ((rd_T30 l0 x3_1).f3) 0 6).bind fun t219 => (if t219 = true then ((skiarearef51_in.f ((rd_T30 l0 x3_1).f4) 0 20000000).bind fun t220 => (if t220 = true then (if ((rd_T30 l0 x3_1).f5.f0) < 0 then (skiarearef51_Right.j1 k1 l0 x3_1 true ((rd_T30 l0 x3_1).f0) ((rd_T30 l0 x3_1).f1) ((rd_T30 l0 x3_1).f2) ((rd_T30 l0 x3_1).f3) ((rd_T30 l0 x3_1).f4) ((rd_T30 l0 x3_1).f5.f0) ((rd_T30 l0 x3_1).f5.f1)) else (if ((rd_T30 l0 x3_1).f5.f0) ≥ ((rd_T30 l0 x3_1).f5.f1) then (skiarearef51_Right.j1 k1 l0 x3_1 true ((rd_T30 l0 x3_1).f0) ((rd_T30 l0 x3_1).f1) ((rd_T30 l0 x3_1).f2) ((rd_T30 l0 x3_1).f3) ((rd_T30 l0 x3_1).f4) ((rd_T30 l0 x3_1).f5.f0) ((rd_T30 l0 x3_1).f5.f1)) else (skiarearef51_Right.j1 k1 l0 x3_1 (decide (((rd_T30 l0 x3_1).f5.f1) > 20000000)) ((rd_T30 l0 x3_1).f0) ((rd_T30 l0 x3_1).f1) ((rd_T30 l0 x3_1).f2) ((rd_T30 l0 x3_1).f3) ((rd_T30 l0 x3_1).f4) ((rd_T30 l0 x3_1).f5.f0) ((rd_T30 l0 x3_1).f5.f1)))) else (skiarearef51_Right.j1 k1 l0 x3_1 true ((rd_T30 l0 x3_1).f0) ((rd_T30 l0 x3_1).f1) ((rd_T30 l0 x3_1).f2) ((rd_T30 l0 x3_1).f3) ((rd_T30 l0 x3_1).f4) ((rd_T30 l0 x3_1).f5.f0) ((rd_T30 l0 x3_1).f5.f1)))) else (skiarearef51_Right.j1 k1 l0 x3_1 true ((rd_T30 l0 x3_1).f0) ((rd_T30 l0 x3_1).f1) ((rd_T30 l0 x3_1).f2) ((rd_T30 l0 x3_1).f3) ((rd_T30 l0 x3_1).f4) ((rd_T30 l0 x3_1).f5.f0) ((rd_T30 l0 x3_1).f5.f1)))) = some r := by rw [if_pos rfl] at H; exact H
          clear H; have H := H1; clear H1; replace H := Option.bind_eq_some_iff.mp H; obtain ⟨t219, A170, H⟩ := H; replace H : (if t219 = true then ((skiarearef51_in.f ((rd_T30 l0 x3_1).f4) 0 20000000).bind fun t220 => (if t220 = true then (if ((rd_T30 l0 x3_1).f5.f0) < 0 then (skiarearef51_Right.j1 k1 l0 x3_1 true ((rd_T30 l0 x3_1).f0) ((rd_T30 l0 x3_1).f1) ((rd_T30 l0 x3_1).f2) ((rd_T30 l0 x3_1).f3) ((rd_T30 l0 x3_1).f4) ((rd_T30 l0 x3_1).f5.f0) ((rd_T30 l0 x3_1).f5.f1)) else (if ((rd_T30 l0 x3_1).f5.f0) ≥ ((rd_T30 l0 x3_1).f5.f1) then (skiarearef51_Right.j1 k1 l0 x3_1 true ((rd_T30 l0 x3_1).f0) ((rd_T30 l0 x3_1).f1) ((rd_T30 l0 x3_1).f2) ((rd_T30 l0 x3_1).f3) ((rd_T30 l0 x3_1).f4) ((rd_T30 l0 x3_1).f5.f0) ((rd_T30 l0 x3_1).f5.f1)) else (skiarearef51_Right.j1 k1 l0 x3_1 (decide (((rd_T30 l0 x3_1).f5.f1) > 20000000)) ((rd_T30 l0 x3_1).f0) ((rd_T30 l0 x3_1).f1) ((rd_T30 l0 x3_1).f2) ((rd_T30 l0 x3_1).f3) ((rd_T30 l0 x3_1).f4) ((rd_T30 l0 x3_1).f5.f0) ((rd_T30 l0 x3_1).f5.f1)))) else (skiarearef51_Right.j1 k1 l0 x3_1 true ((rd_T30 l0 x3_1).f0) ((rd_T30 l0 x3_1).f1) ((rd_T30 l0 x3_1).f2) ((rd_T30 l0 x3_1).f3) ((rd_T30 l0 x3_1).f4) ((rd_T30 l0 x3_1).f5.f0) ((rd_T30 l0 x3_1).f5.f1)))) else (skiarearef51_Right.j1 k1 l0 x3_1 true ((rd_T30 l0 x3_1).f0) ((rd_T30 l0 x3_1).f1) ((rd_T30 l0 x3_1).f2) ((rd_T30 l0 x3_1).f3) ((rd_T30 l0 x3_1).f4) ((rd_T30 l0 x3_1).f5.f0) ((rd_T30 l0 x3_1).f5.f1))) = some r := H; have A17 := Aside0.mk A170; clear A170; by_cases c18 : t219 = true
          ·
           subst c18; have H1 : ((skiarearef51_in.f ((rd_T30 l0 x3_1).f4) 0 20000000).bind fun t220 => (if t220 = true then (if ((rd_T30 l0 x3_1).f5.f0) < 0 then (skiarearef51_Right.j1 k1 l0 x3_1 true ((rd_T30 l0 x3_1).f0) ((rd_T30 l0 x3_1).f1) ((rd_T30 l0 x3_1).f2) ((rd_T30 l0 x3_1).f3) ((rd_T30 l0 x3_1).f4) ((rd_T30 l0 x3_1).f5.f0) ((rd_T30 l0 x3_1).f5.f1)) else (if ((rd_T30 l0 x3_1).f5.f0) ≥ ((rd_T30 l0 x3_1).f5.f1) then (skiarearef51_Right.j1 k1 l0 x3_1 true ((rd_T30 l0 x3_1).f0) ((rd_T30 l0 x3_1).f1) ((rd_T30 l0 x3_1).f2) ((rd_T30 l0 x3_1).f3) ((rd_T30 l0 x3_1).f4) ((rd_T30 l0 x3_1).f5.f0) ((rd_T30 l0 x3_1).f5.f1)) else (skiarearef51_Right.j1 k1 l0 x3_1 (decide (((rd_T30 l0 x3_1).f5.f1) > 20000000)) ((rd_T30 l0 x3_1).f0) ((rd_T30 l0 x3_1).f1) ((rd_T30 l0 x3_1).f2) ((rd_T30 l0 x3_1).f3) ((rd_T30 l0 x3_1).f4) ((rd_T30 l0 x3_1).f5.f0) ((rd_T30 l0 x3_1).f5.f1)))) else (skiarearef51_Right.j1 k1 l0 x3_1 true ((rd_T30 l0 x3_1).f0) ((rd_T30 l0 x3_1).f1) ((rd_T30 l0 x3_1).f2) ((rd_T30 l0 x3_1).f3) ((rd_T30 l0 x3_1).f4) ((rd_T30 l0 x3_1).f5.f0) ((rd_T30 l0 x3_1).f5.f1)))) = some r := by rw [if_pos rfl] at H; exact H
           clear H; have H := H1; clear H1; replace H := Option.bind_eq_some_iff.mp H; obtain ⟨t220, A190, H⟩ := H; replace H : (if t220 = true then (if ((rd_T30 l0 x3_1).f5.f0) < 0 then (skiarearef51_Right.j1 k1 l0 x3_1 true ((rd_T30 l0 x3_1).f0) ((rd_T30 l0 x3_1).f1) ((rd_T30 l0 x3_1).f2) ((rd_T30 l0 x3_1).f3) ((rd_T30 l0 x3_1).f4) ((rd_T30 l0 x3_1).f5.f0) ((rd_T30 l0 x3_1).f5.f1)) else (if ((rd_T30 l0 x3_1).f5.f0) ≥ ((rd_T30 l0 x3_1).f5.f1) then (skiarearef51_Right.j1 k1 l0 x3_1 true ((rd_T30 l0 x3_1).f0) ((rd_T30 l0 x3_1).f1) ((rd_T30 l0 x3_1).f2) ((rd_T30 l0 x3_1).f3) ((rd_T30 l0 x3_1).f4) ((rd_T30 l0 x3_1).f5.f0) ((rd_T30 l0 x3_1).f5.f1)) else (skiarearef51_Right.j1 k1 l0 x3_1 (decide (((rd_T30 l0 x3_1).f5.f1) > 20000000)) ((rd_T30 l0 x3_1).f0) ((rd_T30 l0 x3_1).f1) ((rd_T30 l0 x3_1).f2) ((rd_T30 l0 x3_1).f3) ((rd_T30 l0 x3_1).f4) ((rd_T30 l0 x3_1).f5.f0) ((rd_T30 l0 x3_1).f5.f1)))) else (skiarearef51_Right.j1 k1 l0 x3_1 true ((rd_T30 l0 x3_1).f0) ((rd_T30 l0 x3_1).f1) ((rd_T30 l0 x3_1).f2) ((rd_T30 l0 x3_1).f3) ((rd_T30 l0 x3_1).f4) ((rd_T30 l0 x3_1).f5.f0) ((rd_T30 l0 x3_1).f5.f1))) = some r := H; have A19 := Aside0.mk A190; clear A190; by_cases c20 : t220 = true
           ·
            subst c20; have H1 : (if ((rd_T30 l0 x3_1).f5.f0) < 0 then (skiarearef51_Right.j1 k1 l0 x3_1 true ((rd_T30 l0 x3_1).f0) ((rd_T30 l0 x3_1).f1) ((rd_T30 l0 x3_1).f2) ((rd_T30 l0 x3_1).f3) ((rd_T30 l0 x3_1).f4) ((rd_T30 l0 x3_1).f5.f0) ((rd_T30 l0 x3_1).f5.f1)) else (if ((rd_T30 l0 x3_1).f5.f0) ≥ ((rd_T30 l0 x3_1).f5.f1) then (skiarearef51_Right.j1 k1 l0 x3_1 true ((rd_T30 l0 x3_1).f0) ((rd_T30 l0 x3_1).f1) ((rd_T30 l0 x3_1).f2) ((rd_T30 l0 x3_1).f3) ((rd_T30 l0 x3_1).f4) ((rd_T30 l0 x3_1).f5.f0) ((rd_T30 l0 x3_1).f5.f1)) else (skiarearef51_Right.j1 k1 l0 x3_1 (decide (((rd_T30 l0 x3_1).f5.f1) > 20000000)) ((rd_T30 l0 x3_1).f0) ((rd_T30 l0 x3_1).f1) ((rd_T30 l0 x3_1).f2) ((rd_T30 l0 x3_1).f3) ((rd_T30 l0 x3_1).f4) ((rd_T30 l0 x3_1).f5.f0) ((rd_T30 l0 x3_1).f5.f1)))) = some r := by rw [if_pos rfl] at H; exact H
            clear H; have H := H1; clear H1; by_cases c21 : ((rd_T30 l0 x3_1).f5.f0) < 0
            ·
             rw [if_pos c21] at H
             have c21b0 : decide (((rd_T30 l0 x3_1).f5.f0) < 0) = true := decide_eq_true c21; clear c21; (first | rw [c21b0] | (simp only [i64_w, i32_w]; rw [c21b0]) | skip)
             have H' := Aside0.mk H; clear H; have hnb22 := NB214_215.out; have hnc22 := NB215_214.out; have hcz23_0 : w8.cell? ⟨gb214, 0, none⟩ = some (.int .i64 ((rd_T30 l0 x3_1).f0)) := (blk_cell BK214.out 0).trans rfl; have hcz23_1 : w8.cell? ⟨gb214, 1, none⟩ = some (.int .i64 ((rd_T30 l0 x3_1).f1)) := (blk_cell BK214.out 1).trans rfl; have hcz23_2 : w8.cell? ⟨gb214, 2, none⟩ = some (.int .i64 ((rd_T30 l0 x3_1).f2)) := (blk_cell BK214.out 2).trans rfl; have hcz23_3 : w8.cell? ⟨gb214, 3, none⟩ = some (.int .i64 ((rd_T30 l0 x3_1).f3)) := (blk_cell BK214.out 3).trans rfl; have hcz23_4 : w8.cell? ⟨gb214, 4, none⟩ = some (.int .i64 ((rd_T30 l0 x3_1).f4)) := (blk_cell BK214.out 4).trans rfl; have hcz23_5 : w8.cell? ⟨gb214, 5, none⟩ = some (.int .i64 ((rd_T30 l0 x3_1).f5.f0)) := (blk_cell BK214.out 5).trans rfl; have hcz23_6 : w8.cell? ⟨gb214, 6, none⟩ = some (.int .i64 ((rd_T30 l0 x3_1).f5.f1)) := (blk_cell BK214.out 6).trans rfl; have hfz23_0 := blk_frozen BK214.out 0; have hfz23_1 := blk_frozen BK214.out 1; have hfz23_2 := blk_frozen BK214.out 2; have hfz23_3 := blk_frozen BK214.out 3; have hfz23_4 := blk_frozen BK214.out 4; have hfz23_5 := blk_frozen BK214.out 5; have hfz23_6 := blk_frozen BK214.out 6; go_wp2_with (first | ((with_reducible refine gate_callee (f := 40) rfl ?_); refine goesL_ (some 24) rfl rfl Try.func40 (by kernel_rfl) rfl #[.int .i64 ((rd_T30 l0 x3_1).f0), .int .i64 1, .int .i64 9999] rfl (by (try simp only [List.map_toArray, List.map_cons, List.map_nil]); first | done | rfl | (simp only [List.length_drop, List.length_take]; rfl)) ?_; (with_reducible refine (skiarearef51_in.calls ((rd_T30 l0 x3_1).f0) 1 9999 true _ A11.out).mono ?_); rintro e w' ⟨rfl, ⟨nd, rfl⟩⟩; refine ⟨_, rfl, ?_⟩) | (go_at_call 40; (with_reducible refine (skiarearef51_in.calls ((rd_T30 l0 x3_1).f1) 1 9999 true _ A13.out).mono ?_); rintro e w' ⟨rfl, ⟨nd, rfl⟩⟩; (try clear A13)) | (go_at_call 40; (with_reducible refine (skiarearef51_in.calls ((rd_T30 l0 x3_1).f2) 1 9999 true _ A15.out).mono ?_); rintro e w' ⟨rfl, ⟨nd, rfl⟩⟩; (try clear A15)) | (go_at_call 40; (with_reducible refine (skiarearef51_in.calls ((rd_T30 l0 x3_1).f3) 0 6 true _ A17.out).mono ?_); rintro e w' ⟨rfl, ⟨nd, rfl⟩⟩; (try clear A17)) | (go_at_call 40; (with_reducible refine (skiarearef51_in.calls ((rd_T30 l0 x3_1).f4) 0 20000000 true _ A19.out).mono ?_); rintro e w' ⟨rfl, ⟨nd, rfl⟩⟩; (try clear A19); have hcz24_0 : w8.cell? ⟨gb215, 0, none⟩ = some (.int .i64 0) := (blk_cell BK215.out 0).trans rfl; have hcz24_1 : w8.cell? ⟨gb215, 1, none⟩ = some (.int .i64 0) := (blk_cell BK215.out 1).trans rfl; have hfz24_0 := blk_frozen BK215.out 0; have hfz24_1 := blk_frozen BK215.out 1))
             go_meet
             case rel => exact ⟨_, (true), (by first | rfl | (simp; done) | (simp [*]; done)), H', ⟨by have := HK1.out; first | omega | exact Nat.le_refl _⟩, ⟨by (with_reducible repeat (first | refine bN_ ?_ _ | refine bD_ ?_ | refine bA_ ?_ _)); refine blk_far ?_ NB214_215.out _; (with_reducible repeat (first | refine bN_ ?_ _ | refine bD_ ?_ | refine bA_ ?_ _)); refine blk_far ?_ NB214_215.out _; (with_reducible repeat (first | refine bN_ ?_ _ | refine bD_ ?_ | refine bA_ ?_ _)); exact BK214.out⟩, ⟨by (with_reducible repeat (first | refine bN_ ?_ _ | refine bD_ ?_ | refine bA_ ?_ _)); refine blk_put (cs := #[.int .i64 ((rd_T30 l0 x3_1).f5.f0), .int .i64 0]) ?_ 1 _ rfl; (with_reducible repeat (first | refine bN_ ?_ _ | refine bD_ ?_ | refine bA_ ?_ _)); refine blk_put (cs := #[.int .i64 0, .int .i64 0]) ?_ 0 _ rfl; (with_reducible repeat (first | refine bN_ ?_ _ | refine bD_ ?_ | refine bA_ ?_ _)); exact BK215.out⟩, ⟨by repeat (first | (with_reducible first | exact HB.out | apply lA_ | apply lN_ | apply lD_ | refine lS_ ?_ GE214.out | refine lS_ ?_ GE215.out) | exact HB.out)⟩⟩
            ·
             rw [if_neg c21] at H
             have c21b0 : decide (((rd_T30 l0 x3_1).f5.f0) < 0) = false := decide_eq_false c21; clear c21; (first | rw [c21b0] | (simp only [i64_w, i32_w]; rw [c21b0]) | skip)
             by_cases c25 : ((rd_T30 l0 x3_1).f5.f0) ≥ ((rd_T30 l0 x3_1).f5.f1)
             ·
              rw [if_pos c25] at H
              have c25b0 : decide (((rd_T30 l0 x3_1).f5.f1) ≤ ((rd_T30 l0 x3_1).f5.f0)) = true := decide_eq_true c25; clear c25; have H' := Aside0.mk H; clear H; have hnb26 := NB214_215.out; have hnc26 := NB215_214.out; have hcz27_0 : w8.cell? ⟨gb214, 0, none⟩ = some (.int .i64 ((rd_T30 l0 x3_1).f0)) := (blk_cell BK214.out 0).trans rfl; have hcz27_1 : w8.cell? ⟨gb214, 1, none⟩ = some (.int .i64 ((rd_T30 l0 x3_1).f1)) := (blk_cell BK214.out 1).trans rfl; have hcz27_2 : w8.cell? ⟨gb214, 2, none⟩ = some (.int .i64 ((rd_T30 l0 x3_1).f2)) := (blk_cell BK214.out 2).trans rfl; have hcz27_3 : w8.cell? ⟨gb214, 3, none⟩ = some (.int .i64 ((rd_T30 l0 x3_1).f3)) := (blk_cell BK214.out 3).trans rfl; have hcz27_4 : w8.cell? ⟨gb214, 4, none⟩ = some (.int .i64 ((rd_T30 l0 x3_1).f4)) := (blk_cell BK214.out 4).trans rfl; have hcz27_5 : w8.cell? ⟨gb214, 5, none⟩ = some (.int .i64 ((rd_T30 l0 x3_1).f5.f0)) := (blk_cell BK214.out 5).trans rfl; have hcz27_6 : w8.cell? ⟨gb214, 6, none⟩ = some (.int .i64 ((rd_T30 l0 x3_1).f5.f1)) := (blk_cell BK214.out 6).trans rfl; have hfz27_0 := blk_frozen BK214.out 0; have hfz27_1 := blk_frozen BK214.out 1; have hfz27_2 := blk_frozen BK214.out 2; have hfz27_3 := blk_frozen BK214.out 3; have hfz27_4 := blk_frozen BK214.out 4; have hfz27_5 := blk_frozen BK214.out 5; have hfz27_6 := blk_frozen BK214.out 6; go_wp2_with (first | ((with_reducible refine gate_callee (f := 40) rfl ?_); refine goesL_ (some 24) rfl rfl Try.func40 (by kernel_rfl) rfl #[.int .i64 ((rd_T30 l0 x3_1).f0), .int .i64 1, .int .i64 9999] rfl (by (try simp only [List.map_toArray, List.map_cons, List.map_nil]); first | done | rfl | (simp only [List.length_drop, List.length_take]; rfl)) ?_; (with_reducible refine (skiarearef51_in.calls ((rd_T30 l0 x3_1).f0) 1 9999 true _ A11.out).mono ?_); rintro e w' ⟨rfl, ⟨nd, rfl⟩⟩; refine ⟨_, rfl, ?_⟩) | (go_at_call 40; (with_reducible refine (skiarearef51_in.calls ((rd_T30 l0 x3_1).f1) 1 9999 true _ A13.out).mono ?_); rintro e w' ⟨rfl, ⟨nd, rfl⟩⟩; (try clear A13)) | (go_at_call 40; (with_reducible refine (skiarearef51_in.calls ((rd_T30 l0 x3_1).f2) 1 9999 true _ A15.out).mono ?_); rintro e w' ⟨rfl, ⟨nd, rfl⟩⟩; (try clear A15)) | (go_at_call 40; (with_reducible refine (skiarearef51_in.calls ((rd_T30 l0 x3_1).f3) 0 6 true _ A17.out).mono ?_); rintro e w' ⟨rfl, ⟨nd, rfl⟩⟩; (try clear A17)) | (go_at_call 40; (with_reducible refine (skiarearef51_in.calls ((rd_T30 l0 x3_1).f4) 0 20000000 true _ A19.out).mono ?_); rintro e w' ⟨rfl, ⟨nd, rfl⟩⟩; (try clear A19); have hcz28_0 : w8.cell? ⟨gb215, 0, none⟩ = some (.int .i64 0) := (blk_cell BK215.out 0).trans rfl; have hcz28_1 : w8.cell? ⟨gb215, 1, none⟩ = some (.int .i64 0) := (blk_cell BK215.out 1).trans rfl; have hfz28_0 := blk_frozen BK215.out 0; have hfz28_1 := blk_frozen BK215.out 1))
              go_meet
              case rel => exact ⟨_, (true), (by first | rfl | (simp; done) | (simp [*]; done)), H', ⟨by have := HK1.out; first | omega | exact Nat.le_refl _⟩, ⟨by (with_reducible repeat (first | refine bN_ ?_ _ | refine bD_ ?_ | refine bA_ ?_ _)); refine blk_far ?_ NB214_215.out _; (with_reducible repeat (first | refine bN_ ?_ _ | refine bD_ ?_ | refine bA_ ?_ _)); refine blk_far ?_ NB214_215.out _; (with_reducible repeat (first | refine bN_ ?_ _ | refine bD_ ?_ | refine bA_ ?_ _)); exact BK214.out⟩, ⟨by (with_reducible repeat (first | refine bN_ ?_ _ | refine bD_ ?_ | refine bA_ ?_ _)); refine blk_put (cs := #[.int .i64 ((rd_T30 l0 x3_1).f5.f0), .int .i64 0]) ?_ 1 _ rfl; (with_reducible repeat (first | refine bN_ ?_ _ | refine bD_ ?_ | refine bA_ ?_ _)); refine blk_put (cs := #[.int .i64 0, .int .i64 0]) ?_ 0 _ rfl; (with_reducible repeat (first | refine bN_ ?_ _ | refine bD_ ?_ | refine bA_ ?_ _)); exact BK215.out⟩, ⟨by repeat (first | (with_reducible first | exact HB.out | apply lA_ | apply lN_ | apply lD_ | refine lS_ ?_ GE214.out | refine lS_ ?_ GE215.out) | exact HB.out)⟩⟩
             ·
              rw [if_neg c25] at H
              have c25b0 : decide (((rd_T30 l0 x3_1).f5.f1) ≤ ((rd_T30 l0 x3_1).f5.f0)) = false := decide_eq_false c25; clear c25; have H' := Aside0.mk H; clear H; have hnb29 := NB214_215.out; have hnc29 := NB215_214.out; have hcz30_0 : w8.cell? ⟨gb214, 0, none⟩ = some (.int .i64 ((rd_T30 l0 x3_1).f0)) := (blk_cell BK214.out 0).trans rfl; have hcz30_1 : w8.cell? ⟨gb214, 1, none⟩ = some (.int .i64 ((rd_T30 l0 x3_1).f1)) := (blk_cell BK214.out 1).trans rfl; have hcz30_2 : w8.cell? ⟨gb214, 2, none⟩ = some (.int .i64 ((rd_T30 l0 x3_1).f2)) := (blk_cell BK214.out 2).trans rfl; have hcz30_3 : w8.cell? ⟨gb214, 3, none⟩ = some (.int .i64 ((rd_T30 l0 x3_1).f3)) := (blk_cell BK214.out 3).trans rfl; have hcz30_4 : w8.cell? ⟨gb214, 4, none⟩ = some (.int .i64 ((rd_T30 l0 x3_1).f4)) := (blk_cell BK214.out 4).trans rfl; have hcz30_5 : w8.cell? ⟨gb214, 5, none⟩ = some (.int .i64 ((rd_T30 l0 x3_1).f5.f0)) := (blk_cell BK214.out 5).trans rfl; have hcz30_6 : w8.cell? ⟨gb214, 6, none⟩ = some (.int .i64 ((rd_T30 l0 x3_1).f5.f1)) := (blk_cell BK214.out 6).trans rfl; have hfz30_0 := blk_frozen BK214.out 0; have hfz30_1 := blk_frozen BK214.out 1; have hfz30_2 := blk_frozen BK214.out 2; have hfz30_3 := blk_frozen BK214.out 3; have hfz30_4 := blk_frozen BK214.out 4; have hfz30_5 := blk_frozen BK214.out 5; have hfz30_6 := blk_frozen BK214.out 6; go_wp2_with (first | ((with_reducible refine gate_callee (f := 40) rfl ?_); refine goesL_ (some 24) rfl rfl Try.func40 (by kernel_rfl) rfl #[.int .i64 ((rd_T30 l0 x3_1).f0), .int .i64 1, .int .i64 9999] rfl (by (try simp only [List.map_toArray, List.map_cons, List.map_nil]); first | done | rfl | (simp only [List.length_drop, List.length_take]; rfl)) ?_; (with_reducible refine (skiarearef51_in.calls ((rd_T30 l0 x3_1).f0) 1 9999 true _ A11.out).mono ?_); rintro e w' ⟨rfl, ⟨nd, rfl⟩⟩; refine ⟨_, rfl, ?_⟩) | (go_at_call 40; (with_reducible refine (skiarearef51_in.calls ((rd_T30 l0 x3_1).f1) 1 9999 true _ A13.out).mono ?_); rintro e w' ⟨rfl, ⟨nd, rfl⟩⟩; (try clear A13)) | (go_at_call 40; (with_reducible refine (skiarearef51_in.calls ((rd_T30 l0 x3_1).f2) 1 9999 true _ A15.out).mono ?_); rintro e w' ⟨rfl, ⟨nd, rfl⟩⟩; (try clear A15)) | (go_at_call 40; (with_reducible refine (skiarearef51_in.calls ((rd_T30 l0 x3_1).f3) 0 6 true _ A17.out).mono ?_); rintro e w' ⟨rfl, ⟨nd, rfl⟩⟩; (try clear A17)) | (go_at_call 40; (with_reducible refine (skiarearef51_in.calls ((rd_T30 l0 x3_1).f4) 0 20000000 true _ A19.out).mono ?_); rintro e w' ⟨rfl, ⟨nd, rfl⟩⟩; (try clear A19); have hcz31_0 : w8.cell? ⟨gb215, 0, none⟩ = some (.int .i64 0) := (blk_cell BK215.out 0).trans rfl; have hcz31_1 : w8.cell? ⟨gb215, 1, none⟩ = some (.int .i64 0) := (blk_cell BK215.out 1).trans rfl; have hfz31_0 := blk_frozen BK215.out 0; have hfz31_1 := blk_frozen BK215.out 1))
              go_meet
              case rel => exact ⟨_, (decide (((rd_T30 l0 x3_1).f5.f1) > 20000000)), (by first | rfl | (simp; done) | (simp [*]; done)), H', ⟨by have := HK1.out; first | omega | exact Nat.le_refl _⟩, ⟨by (with_reducible repeat (first | refine bN_ ?_ _ | refine bD_ ?_ | refine bA_ ?_ _)); refine blk_far ?_ NB214_215.out _; (with_reducible repeat (first | refine bN_ ?_ _ | refine bD_ ?_ | refine bA_ ?_ _)); refine blk_far ?_ NB214_215.out _; (with_reducible repeat (first | refine bN_ ?_ _ | refine bD_ ?_ | refine bA_ ?_ _)); exact BK214.out⟩, ⟨by (with_reducible repeat (first | refine bN_ ?_ _ | refine bD_ ?_ | refine bA_ ?_ _)); refine blk_put (cs := #[.int .i64 ((rd_T30 l0 x3_1).f5.f0), .int .i64 0]) ?_ 1 _ rfl; (with_reducible repeat (first | refine bN_ ?_ _ | refine bD_ ?_ | refine bA_ ?_ _)); refine blk_put (cs := #[.int .i64 0, .int .i64 0]) ?_ 0 _ rfl; (with_reducible repeat (first | refine bN_ ?_ _ | refine bD_ ?_ | refine bA_ ?_ _)); exact BK215.out⟩, ⟨by repeat (first | (with_reducible first | exact HB.out | apply lA_ | apply lN_ | apply lD_ | refine lS_ ?_ GE214.out | refine lS_ ?_ GE215.out) | exact HB.out)⟩⟩
           ·
            replace c20 := Bool.eq_false_iff.mpr c20; subst c20; have H1 : (skiarearef51_Right.j1 k1 l0 x3_1 true ((rd_T30 l0 x3_1).f0) ((rd_T30 l0 x3_1).f1) ((rd_T30 l0 x3_1).f2) ((rd_T30 l0 x3_1).f3) ((rd_T30 l0 x3_1).f4) ((rd_T30 l0 x3_1).f5.f0) ((rd_T30 l0 x3_1).f5.f1)) = some r := by rw [if_neg (show ¬ (false = true) by decide)] at H; exact H
            clear H; have H := H1; clear H1; have H' := Aside0.mk H; clear H; have hnb32 := NB214_215.out; have hnc32 := NB215_214.out; have hcz33_0 : w8.cell? ⟨gb214, 0, none⟩ = some (.int .i64 ((rd_T30 l0 x3_1).f0)) := (blk_cell BK214.out 0).trans rfl; have hcz33_1 : w8.cell? ⟨gb214, 1, none⟩ = some (.int .i64 ((rd_T30 l0 x3_1).f1)) := (blk_cell BK214.out 1).trans rfl; have hcz33_2 : w8.cell? ⟨gb214, 2, none⟩ = some (.int .i64 ((rd_T30 l0 x3_1).f2)) := (blk_cell BK214.out 2).trans rfl; have hcz33_3 : w8.cell? ⟨gb214, 3, none⟩ = some (.int .i64 ((rd_T30 l0 x3_1).f3)) := (blk_cell BK214.out 3).trans rfl; have hcz33_4 : w8.cell? ⟨gb214, 4, none⟩ = some (.int .i64 ((rd_T30 l0 x3_1).f4)) := (blk_cell BK214.out 4).trans rfl; have hcz33_5 : w8.cell? ⟨gb214, 5, none⟩ = some (.int .i64 ((rd_T30 l0 x3_1).f5.f0)) := (blk_cell BK214.out 5).trans rfl; have hcz33_6 : w8.cell? ⟨gb214, 6, none⟩ = some (.int .i64 ((rd_T30 l0 x3_1).f5.f1)) := (blk_cell BK214.out 6).trans rfl; have hfz33_0 := blk_frozen BK214.out 0; have hfz33_1 := blk_frozen BK214.out 1; have hfz33_2 := blk_frozen BK214.out 2; have hfz33_3 := blk_frozen BK214.out 3; have hfz33_4 := blk_frozen BK214.out 4; have hfz33_5 := blk_frozen BK214.out 5; have hfz33_6 := blk_frozen BK214.out 6; go_wp2_with (first | ((with_reducible refine gate_callee (f := 40) rfl ?_); refine goesL_ (some 24) rfl rfl Try.func40 (by kernel_rfl) rfl #[.int .i64 ((rd_T30 l0 x3_1).f0), .int .i64 1, .int .i64 9999] rfl (by (try simp only [List.map_toArray, List.map_cons, List.map_nil]); first | done | rfl | (simp only [List.length_drop, List.length_take]; rfl)) ?_; (with_reducible refine (skiarearef51_in.calls ((rd_T30 l0 x3_1).f0) 1 9999 true _ A11.out).mono ?_); rintro e w' ⟨rfl, ⟨nd, rfl⟩⟩; refine ⟨_, rfl, ?_⟩) | (go_at_call 40; (with_reducible refine (skiarearef51_in.calls ((rd_T30 l0 x3_1).f1) 1 9999 true _ A13.out).mono ?_); rintro e w' ⟨rfl, ⟨nd, rfl⟩⟩; (try clear A13)) | (go_at_call 40; (with_reducible refine (skiarearef51_in.calls ((rd_T30 l0 x3_1).f2) 1 9999 true _ A15.out).mono ?_); rintro e w' ⟨rfl, ⟨nd, rfl⟩⟩; (try clear A15)) | (go_at_call 40; (with_reducible refine (skiarearef51_in.calls ((rd_T30 l0 x3_1).f3) 0 6 true _ A17.out).mono ?_); rintro e w' ⟨rfl, ⟨nd, rfl⟩⟩; (try clear A17)) | (go_at_call 40; (with_reducible refine (skiarearef51_in.calls ((rd_T30 l0 x3_1).f4) 0 20000000 false _ A19.out).mono ?_); rintro e w' ⟨rfl, ⟨nd, rfl⟩⟩; (try clear A19)))
            go_meet
            case rel => exact ⟨_, (true), (by first | rfl | (simp; done) | (simp [*]; done)), H', ⟨by have := HK1.out; first | omega | exact Nat.le_refl _⟩, ⟨by (with_reducible repeat (first | refine bN_ ?_ _ | refine bD_ ?_ | refine bA_ ?_ _)); refine blk_far ?_ NB214_215.out _; (with_reducible repeat (first | refine bN_ ?_ _ | refine bD_ ?_ | refine bA_ ?_ _)); refine blk_far ?_ NB214_215.out _; (with_reducible repeat (first | refine bN_ ?_ _ | refine bD_ ?_ | refine bA_ ?_ _)); exact BK214.out⟩, ⟨by (with_reducible repeat (first | refine bN_ ?_ _ | refine bD_ ?_ | refine bA_ ?_ _)); refine blk_put (cs := #[.int .i64 ((rd_T30 l0 x3_1).f5.f0), .int .i64 0]) ?_ 1 _ rfl; (with_reducible repeat (first | refine bN_ ?_ _ | refine bD_ ?_ | refine bA_ ?_ _)); refine blk_put (cs := #[.int .i64 0, .int .i64 0]) ?_ 0 _ rfl; (with_reducible repeat (first | refine bN_ ?_ _ | refine bD_ ?_ | refine bA_ ?_ _)); exact BK215.out⟩, ⟨by repeat (first | (with_reducible first | exact HB.out | apply lA_ | apply lN_ | apply lD_ | refine lS_ ?_ GE214.out | refine lS_ ?_ GE215.out) | exact HB.out)⟩⟩
          ·
           replace c18 := Bool.eq_false_iff.mpr c18; subst c18; have H1 : (skiarearef51_Right.j1 k1 l0 x3_1 true ((rd_T30 l0 x3_1).f0) ((rd_T30 l0 x3_1).f1) ((rd_T30 l0 x3_1).f2) ((rd_T30 l0 x3_1).f3) ((rd_T30 l0 x3_1).f4) ((rd_T30 l0 x3_1).f5.f0) ((rd_T30 l0 x3_1).f5.f1)) = some r := by rw [if_neg (show ¬ (false = true) by decide)] at H; exact H
           clear H; have H := H1; clear H1; have H' := Aside0.mk H; clear H; have hnb34 := NB214_215.out; have hnc34 := NB215_214.out; have hcz35_0 : w8.cell? ⟨gb214, 0, none⟩ = some (.int .i64 ((rd_T30 l0 x3_1).f0)) := (blk_cell BK214.out 0).trans rfl; have hcz35_1 : w8.cell? ⟨gb214, 1, none⟩ = some (.int .i64 ((rd_T30 l0 x3_1).f1)) := (blk_cell BK214.out 1).trans rfl; have hcz35_2 : w8.cell? ⟨gb214, 2, none⟩ = some (.int .i64 ((rd_T30 l0 x3_1).f2)) := (blk_cell BK214.out 2).trans rfl; have hcz35_3 : w8.cell? ⟨gb214, 3, none⟩ = some (.int .i64 ((rd_T30 l0 x3_1).f3)) := (blk_cell BK214.out 3).trans rfl; have hcz35_4 : w8.cell? ⟨gb214, 4, none⟩ = some (.int .i64 ((rd_T30 l0 x3_1).f4)) := (blk_cell BK214.out 4).trans rfl; have hcz35_5 : w8.cell? ⟨gb214, 5, none⟩ = some (.int .i64 ((rd_T30 l0 x3_1).f5.f0)) := (blk_cell BK214.out 5).trans rfl; have hcz35_6 : w8.cell? ⟨gb214, 6, none⟩ = some (.int .i64 ((rd_T30 l0 x3_1).f5.f1)) := (blk_cell BK214.out 6).trans rfl; have hfz35_0 := blk_frozen BK214.out 0; have hfz35_1 := blk_frozen BK214.out 1; have hfz35_2 := blk_frozen BK214.out 2; have hfz35_3 := blk_frozen BK214.out 3; have hfz35_4 := blk_frozen BK214.out 4; have hfz35_5 := blk_frozen BK214.out 5; have hfz35_6 := blk_frozen BK214.out 6; go_wp2_with (first | ((with_reducible refine gate_callee (f := 40) rfl ?_); refine goesL_ (some 24) rfl rfl Try.func40 (by kernel_rfl) rfl #[.int .i64 ((rd_T30 l0 x3_1).f0), .int .i64 1, .int .i64 9999] rfl (by (try simp only [List.map_toArray, List.map_cons, List.map_nil]); first | done | rfl | (simp only [List.length_drop, List.length_take]; rfl)) ?_; (with_reducible refine (skiarearef51_in.calls ((rd_T30 l0 x3_1).f0) 1 9999 true _ A11.out).mono ?_); rintro e w' ⟨rfl, ⟨nd, rfl⟩⟩; refine ⟨_, rfl, ?_⟩) | (go_at_call 40; (with_reducible refine (skiarearef51_in.calls ((rd_T30 l0 x3_1).f1) 1 9999 true _ A13.out).mono ?_); rintro e w' ⟨rfl, ⟨nd, rfl⟩⟩; (try clear A13)) | (go_at_call 40; (with_reducible refine (skiarearef51_in.calls ((rd_T30 l0 x3_1).f2) 1 9999 true _ A15.out).mono ?_); rintro e w' ⟨rfl, ⟨nd, rfl⟩⟩; (try clear A15)) | (go_at_call 40; (with_reducible refine (skiarearef51_in.calls ((rd_T30 l0 x3_1).f3) 0 6 false _ A17.out).mono ?_); rintro e w' ⟨rfl, ⟨nd, rfl⟩⟩; (try clear A17)))
           go_meet
           case rel => exact ⟨_, (true), (by first | rfl | (simp; done) | (simp [*]; done)), H', ⟨by have := HK1.out; first | omega | exact Nat.le_refl _⟩, ⟨by (with_reducible repeat (first | refine bN_ ?_ _ | refine bD_ ?_ | refine bA_ ?_ _)); refine blk_far ?_ NB214_215.out _; (with_reducible repeat (first | refine bN_ ?_ _ | refine bD_ ?_ | refine bA_ ?_ _)); refine blk_far ?_ NB214_215.out _; (with_reducible repeat (first | refine bN_ ?_ _ | refine bD_ ?_ | refine bA_ ?_ _)); exact BK214.out⟩, ⟨by (with_reducible repeat (first | refine bN_ ?_ _ | refine bD_ ?_ | refine bA_ ?_ _)); refine blk_put (cs := #[.int .i64 ((rd_T30 l0 x3_1).f5.f0), .int .i64 0]) ?_ 1 _ rfl; (with_reducible repeat (first | refine bN_ ?_ _ | refine bD_ ?_ | refine bA_ ?_ _)); refine blk_put (cs := #[.int .i64 0, .int .i64 0]) ?_ 0 _ rfl; (with_reducible repeat (first | refine bN_ ?_ _ | refine bD_ ?_ | refine bA_ ?_ _)); exact BK215.out⟩, ⟨by repeat (first | (with_reducible first | exact HB.out | apply lA_ | apply lN_ | apply lD_ | refine lS_ ?_ GE214.out | refine lS_ ?_ GE215.out) | exact HB.out)⟩⟩
         ·
          replace c16 := Bool.eq_false_iff.mpr c16; subst c16; have H1 : (skiarearef51_Right.j1 k1 l0 x3_1 true ((rd_T30 l0 x3_1).f0) ((rd_T30 l0 x3_1).f1) ((rd_T30 l0 x3_1).f2) ((rd_T30 l0 x3_1).f3) ((rd_T30 l0 x3_1).f4) ((rd_T30 l0 x3_1).f5.f0) ((rd_T30 l0 x3_1).f5.f1)) = some r := by rw [if_neg (show ¬ (false = true) by decide)] at H; exact H
          clear H; have H := H1; clear H1; have H' := Aside0.mk H; clear H; have hnb36 := NB214_215.out; have hnc36 := NB215_214.out; have hcz37_0 : w8.cell? ⟨gb214, 0, none⟩ = some (.int .i64 ((rd_T30 l0 x3_1).f0)) := (blk_cell BK214.out 0).trans rfl; have hcz37_1 : w8.cell? ⟨gb214, 1, none⟩ = some (.int .i64 ((rd_T30 l0 x3_1).f1)) := (blk_cell BK214.out 1).trans rfl; have hcz37_2 : w8.cell? ⟨gb214, 2, none⟩ = some (.int .i64 ((rd_T30 l0 x3_1).f2)) := (blk_cell BK214.out 2).trans rfl; have hcz37_3 : w8.cell? ⟨gb214, 3, none⟩ = some (.int .i64 ((rd_T30 l0 x3_1).f3)) := (blk_cell BK214.out 3).trans rfl; have hcz37_4 : w8.cell? ⟨gb214, 4, none⟩ = some (.int .i64 ((rd_T30 l0 x3_1).f4)) := (blk_cell BK214.out 4).trans rfl; have hcz37_5 : w8.cell? ⟨gb214, 5, none⟩ = some (.int .i64 ((rd_T30 l0 x3_1).f5.f0)) := (blk_cell BK214.out 5).trans rfl; have hcz37_6 : w8.cell? ⟨gb214, 6, none⟩ = some (.int .i64 ((rd_T30 l0 x3_1).f5.f1)) := (blk_cell BK214.out 6).trans rfl; have hfz37_0 := blk_frozen BK214.out 0; have hfz37_1 := blk_frozen BK214.out 1; have hfz37_2 := blk_frozen BK214.out 2; have hfz37_3 := blk_frozen BK214.out 3; have hfz37_4 := blk_frozen BK214.out 4; have hfz37_5 := blk_frozen BK214.out 5; have hfz37_6 := blk_frozen BK214.out 6; go_wp2_with (first | ((with_reducible refine gate_callee (f := 40) rfl ?_); refine goesL_ (some 24) rfl rfl Try.func40 (by kernel_rfl) rfl #[.int .i64 ((rd_T30 l0 x3_1).f0), .int .i64 1, .int .i64 9999] rfl (by (try simp only [List.map_toArray, List.map_cons, List.map_nil]); first | done | rfl | (simp only [List.length_drop, List.length_take]; rfl)) ?_; (with_reducible refine (skiarearef51_in.calls ((rd_T30 l0 x3_1).f0) 1 9999 true _ A11.out).mono ?_); rintro e w' ⟨rfl, ⟨nd, rfl⟩⟩; refine ⟨_, rfl, ?_⟩) | (go_at_call 40; (with_reducible refine (skiarearef51_in.calls ((rd_T30 l0 x3_1).f1) 1 9999 true _ A13.out).mono ?_); rintro e w' ⟨rfl, ⟨nd, rfl⟩⟩; (try clear A13)) | (go_at_call 40; (with_reducible refine (skiarearef51_in.calls ((rd_T30 l0 x3_1).f2) 1 9999 false _ A15.out).mono ?_); rintro e w' ⟨rfl, ⟨nd, rfl⟩⟩; (try clear A15)))
          go_meet
          case rel => exact ⟨_, (true), (by first | rfl | (simp; done) | (simp [*]; done)), H', ⟨by have := HK1.out; first | omega | exact Nat.le_refl _⟩, ⟨by (with_reducible repeat (first | refine bN_ ?_ _ | refine bD_ ?_ | refine bA_ ?_ _)); refine blk_far ?_ NB214_215.out _; (with_reducible repeat (first | refine bN_ ?_ _ | refine bD_ ?_ | refine bA_ ?_ _)); refine blk_far ?_ NB214_215.out _; (with_reducible repeat (first | refine bN_ ?_ _ | refine bD_ ?_ | refine bA_ ?_ _)); exact BK214.out⟩, ⟨by (with_reducible repeat (first | refine bN_ ?_ _ | refine bD_ ?_ | refine bA_ ?_ _)); refine blk_put (cs := #[.int .i64 ((rd_T30 l0 x3_1).f5.f0), .int .i64 0]) ?_ 1 _ rfl; (with_reducible repeat (first | refine bN_ ?_ _ | refine bD_ ?_ | refine bA_ ?_ _)); refine blk_put (cs := #[.int .i64 0, .int .i64 0]) ?_ 0 _ rfl; (with_reducible repeat (first | refine bN_ ?_ _ | refine bD_ ?_ | refine bA_ ?_ _)); exact BK215.out⟩, ⟨by repeat (first | (with_reducible first | exact HB.out | apply lA_ | apply lN_ | apply lD_ | refine lS_ ?_ GE214.out | refine lS_ ?_ GE215.out) | exact HB.out)⟩⟩
        ·
         replace c14 := Bool.eq_false_iff.mpr c14; subst c14; have H1 : (skiarearef51_Right.j1 k1 l0 x3_1 true ((rd_T30 l0 x3_1).f0) ((rd_T30 l0 x3_1).f1) ((rd_T30 l0 x3_1).f2) ((rd_T30 l0 x3_1).f3) ((rd_T30 l0 x3_1).f4) ((rd_T30 l0 x3_1).f5.f0) ((rd_T30 l0 x3_1).f5.f1)) = some r := by rw [if_neg (show ¬ (false = true) by decide)] at H; exact H
         clear H; have H := H1; clear H1; have H' := Aside0.mk H; clear H; have hnb38 := NB214_215.out; have hnc38 := NB215_214.out; have hcz39_0 : w8.cell? ⟨gb214, 0, none⟩ = some (.int .i64 ((rd_T30 l0 x3_1).f0)) := (blk_cell BK214.out 0).trans rfl; have hcz39_1 : w8.cell? ⟨gb214, 1, none⟩ = some (.int .i64 ((rd_T30 l0 x3_1).f1)) := (blk_cell BK214.out 1).trans rfl; have hcz39_2 : w8.cell? ⟨gb214, 2, none⟩ = some (.int .i64 ((rd_T30 l0 x3_1).f2)) := (blk_cell BK214.out 2).trans rfl; have hcz39_3 : w8.cell? ⟨gb214, 3, none⟩ = some (.int .i64 ((rd_T30 l0 x3_1).f3)) := (blk_cell BK214.out 3).trans rfl; have hcz39_4 : w8.cell? ⟨gb214, 4, none⟩ = some (.int .i64 ((rd_T30 l0 x3_1).f4)) := (blk_cell BK214.out 4).trans rfl; have hcz39_5 : w8.cell? ⟨gb214, 5, none⟩ = some (.int .i64 ((rd_T30 l0 x3_1).f5.f0)) := (blk_cell BK214.out 5).trans rfl; have hcz39_6 : w8.cell? ⟨gb214, 6, none⟩ = some (.int .i64 ((rd_T30 l0 x3_1).f5.f1)) := (blk_cell BK214.out 6).trans rfl; have hfz39_0 := blk_frozen BK214.out 0; have hfz39_1 := blk_frozen BK214.out 1; have hfz39_2 := blk_frozen BK214.out 2; have hfz39_3 := blk_frozen BK214.out 3; have hfz39_4 := blk_frozen BK214.out 4; have hfz39_5 := blk_frozen BK214.out 5; have hfz39_6 := blk_frozen BK214.out 6; go_wp2_with (first | ((with_reducible refine gate_callee (f := 40) rfl ?_); refine goesL_ (some 24) rfl rfl Try.func40 (by kernel_rfl) rfl #[.int .i64 ((rd_T30 l0 x3_1).f0), .int .i64 1, .int .i64 9999] rfl (by (try simp only [List.map_toArray, List.map_cons, List.map_nil]); first | done | rfl | (simp only [List.length_drop, List.length_take]; rfl)) ?_; (with_reducible refine (skiarearef51_in.calls ((rd_T30 l0 x3_1).f0) 1 9999 true _ A11.out).mono ?_); rintro e w' ⟨rfl, ⟨nd, rfl⟩⟩; refine ⟨_, rfl, ?_⟩) | (go_at_call 40; (with_reducible refine (skiarearef51_in.calls ((rd_T30 l0 x3_1).f1) 1 9999 false _ A13.out).mono ?_); rintro e w' ⟨rfl, ⟨nd, rfl⟩⟩; (try clear A13)))
         go_meet
         case rel => exact ⟨_, (true), (by first | rfl | (simp; done) | (simp [*]; done)), H', ⟨by have := HK1.out; first | omega | exact Nat.le_refl _⟩, ⟨by (with_reducible repeat (first | refine bN_ ?_ _ | refine bD_ ?_ | refine bA_ ?_ _)); refine blk_far ?_ NB214_215.out _; (with_reducible repeat (first | refine bN_ ?_ _ | refine bD_ ?_ | refine bA_ ?_ _)); refine blk_far ?_ NB214_215.out _; (with_reducible repeat (first | refine bN_ ?_ _ | refine bD_ ?_ | refine bA_ ?_ _)); exact BK214.out⟩, ⟨by (with_reducible repeat (first | refine bN_ ?_ _ | refine bD_ ?_ | refine bA_ ?_ _)); refine blk_put (cs := #[.int .i64 ((rd_T30 l0 x3_1).f5.f0), .int .i64 0]) ?_ 1 _ rfl; (with_reducible repeat (first | refine bN_ ?_ _ | refine bD_ ?_ | refine bA_ ?_ _)); refine blk_put (cs := #[.int .i64 0, .int .i64 0]) ?_ 0 _ rfl; (with_reducible repeat (first | refine bN_ ?_ _ | refine bD_ ?_ | refine bA_ ?_ _)); exact BK215.out⟩, ⟨by repeat (first | (with_reducible first | exact HB.out | apply lA_ | apply lN_ | apply lD_ | refine lS_ ?_ GE214.out | refine lS_ ?_ GE215.out) | exact HB.out)⟩⟩
       ·
        replace c12 := Bool.eq_false_iff.mpr c12; subst c12; have H1 : (skiarearef51_Right.j1 k1 l0 x3_1 true ((rd_T30 l0 x3_1).f0) ((rd_T30 l0 x3_1).f1) ((rd_T30 l0 x3_1).f2) ((rd_T30 l0 x3_1).f3) ((rd_T30 l0 x3_1).f4) ((rd_T30 l0 x3_1).f5.f0) ((rd_T30 l0 x3_1).f5.f1)) = some r := by rw [if_neg (show ¬ (false = true) by decide)] at H; exact H
        clear H; have H := H1; clear H1; have H' := Aside0.mk H; clear H; have hnb40 := NB214_215.out; have hnc40 := NB215_214.out; have hcz41_0 : w8.cell? ⟨gb214, 0, none⟩ = some (.int .i64 ((rd_T30 l0 x3_1).f0)) := (blk_cell BK214.out 0).trans rfl; have hcz41_1 : w8.cell? ⟨gb214, 1, none⟩ = some (.int .i64 ((rd_T30 l0 x3_1).f1)) := (blk_cell BK214.out 1).trans rfl; have hcz41_2 : w8.cell? ⟨gb214, 2, none⟩ = some (.int .i64 ((rd_T30 l0 x3_1).f2)) := (blk_cell BK214.out 2).trans rfl; have hcz41_3 : w8.cell? ⟨gb214, 3, none⟩ = some (.int .i64 ((rd_T30 l0 x3_1).f3)) := (blk_cell BK214.out 3).trans rfl; have hcz41_4 : w8.cell? ⟨gb214, 4, none⟩ = some (.int .i64 ((rd_T30 l0 x3_1).f4)) := (blk_cell BK214.out 4).trans rfl; have hcz41_5 : w8.cell? ⟨gb214, 5, none⟩ = some (.int .i64 ((rd_T30 l0 x3_1).f5.f0)) := (blk_cell BK214.out 5).trans rfl; have hcz41_6 : w8.cell? ⟨gb214, 6, none⟩ = some (.int .i64 ((rd_T30 l0 x3_1).f5.f1)) := (blk_cell BK214.out 6).trans rfl; have hfz41_0 := blk_frozen BK214.out 0; have hfz41_1 := blk_frozen BK214.out 1; have hfz41_2 := blk_frozen BK214.out 2; have hfz41_3 := blk_frozen BK214.out 3; have hfz41_4 := blk_frozen BK214.out 4; have hfz41_5 := blk_frozen BK214.out 5; have hfz41_6 := blk_frozen BK214.out 6; go_wp2_with (first | ((with_reducible refine gate_callee (f := 40) rfl ?_); refine goesL_ (some 24) rfl rfl Try.func40 (by kernel_rfl) rfl #[.int .i64 ((rd_T30 l0 x3_1).f0), .int .i64 1, .int .i64 9999] rfl (by (try simp only [List.map_toArray, List.map_cons, List.map_nil]); first | done | rfl | (simp only [List.length_drop, List.length_take]; rfl)) ?_; (with_reducible refine (skiarearef51_in.calls ((rd_T30 l0 x3_1).f0) 1 9999 false _ A11.out).mono ?_); rintro e w' ⟨rfl, ⟨nd, rfl⟩⟩; refine ⟨_, rfl, ?_⟩))
        go_meet
        case rel => exact ⟨_, (true), (by first | rfl | (simp; done) | (simp [*]; done)), H', ⟨by have := HK1.out; first | omega | exact Nat.le_refl _⟩, ⟨by (with_reducible repeat (first | refine bN_ ?_ _ | refine bD_ ?_ | refine bA_ ?_ _)); refine blk_far ?_ NB214_215.out _; (with_reducible repeat (first | refine bN_ ?_ _ | refine bD_ ?_ | refine bA_ ?_ _)); refine blk_far ?_ NB214_215.out _; (with_reducible repeat (first | refine bN_ ?_ _ | refine bD_ ?_ | refine bA_ ?_ _)); exact BK214.out⟩, ⟨by (with_reducible repeat (first | refine bN_ ?_ _ | refine bD_ ?_ | refine bA_ ?_ _)); refine blk_put (cs := #[.int .i64 ((rd_T30 l0 x3_1).f5.f0), .int .i64 0]) ?_ 1 _ rfl; (with_reducible repeat (first | refine bN_ ?_ _ | refine bD_ ?_ | refine bA_ ?_ _)); refine blk_put (cs := #[.int .i64 0, .int .i64 0]) ?_ 0 _ rfl; (with_reducible repeat (first | refine bN_ ?_ _ | refine bD_ ?_ | refine bA_ ?_ _)); exact BK215.out⟩, ⟨by repeat (first | (with_reducible first | exact HB.out | apply lA_ | apply lN_ | apply lD_ | refine lS_ ?_ GE214.out | refine lS_ ?_ GE215.out) | exact HB.out)⟩⟩
      case rest =>
       clear HC5; try clear c1
       try clear c2
       try clear c2b0
       try clear c2b1
       try clear p2
       try clear q2
       try clear hx2
       try clear c3
       try clear c3b0
       try clear c4
       try clear c4b0
       try clear c9
       try clear c12
       try clear c13
       try clear c14
       try clear c16
       try clear c18
       try clear c20
       try clear c21
       try clear c21b0
       try clear p21
       try clear q21
       try clear hx21
       try clear c22
       try clear c25
       try clear c25b0
       try clear c26
       try clear c29
       try clear c32
       try clear c34
       try clear c36
       try clear c38
       try clear c40
       try clear hcz10_0
       try clear hcz10_1
       try clear hcz23_0
       try clear hcz23_1
       try clear hcz23_2
       try clear hcz23_3
       try clear hcz23_4
       try clear hcz23_5
       try clear hcz23_6
       try clear hcz24_0
       try clear hcz24_1
       try clear hcz27_0
       try clear hcz27_1
       try clear hcz27_2
       try clear hcz27_3
       try clear hcz27_4
       try clear hcz27_5
       try clear hcz27_6
       try clear hcz28_0
       try clear hcz28_1
       try clear hcz30_0
       try clear hcz30_1
       try clear hcz30_2
       try clear hcz30_3
       try clear hcz30_4
       try clear hcz30_5
       try clear hcz30_6
       try clear hcz31_0
       try clear hcz31_1
       try clear hcz33_0
       try clear hcz33_1
       try clear hcz33_2
       try clear hcz33_3
       try clear hcz33_4
       try clear hcz33_5
       try clear hcz33_6
       try clear hcz35_0
       try clear hcz35_1
       try clear hcz35_2
       try clear hcz35_3
       try clear hcz35_4
       try clear hcz35_5
       try clear hcz35_6
       try clear hcz37_0
       try clear hcz37_1
       try clear hcz37_2
       try clear hcz37_3
       try clear hcz37_4
       try clear hcz37_5
       try clear hcz37_6
       try clear hcz39_0
       try clear hcz39_1
       try clear hcz39_2
       try clear hcz39_3
       try clear hcz39_4
       try clear hcz39_5
       try clear hcz39_6
       try clear hcz41_0
       try clear hcz41_1
       try clear hcz41_2
       try clear hcz41_3
       try clear hcz41_4
       try clear hcz41_5
       try clear hcz41_6
       try clear hcz7_0
       try clear hcz7_1
       try clear hcz7_2
       try clear hcz7_3
       try clear hcz7_4
       try clear hcz7_5
       try clear hcz7_6
       try clear hfz10_0
       try clear hfz10_1
       try clear hfz23_0
       try clear hfz23_1
       try clear hfz23_2
       try clear hfz23_3
       try clear hfz23_4
       try clear hfz23_5
       try clear hfz23_6
       try clear hfz24_0
       try clear hfz24_1
       try clear hfz27_0
       try clear hfz27_1
       try clear hfz27_2
       try clear hfz27_3
       try clear hfz27_4
       try clear hfz27_5
       try clear hfz27_6
       try clear hfz28_0
       try clear hfz28_1
       try clear hfz30_0
       try clear hfz30_1
       try clear hfz30_2
       try clear hfz30_3
       try clear hfz30_4
       try clear hfz30_5
       try clear hfz30_6
       try clear hfz31_0
       try clear hfz31_1
       try clear hfz33_0
       try clear hfz33_1
       try clear hfz33_2
       try clear hfz33_3
       try clear hfz33_4
       try clear hfz33_5
       try clear hfz33_6
       try clear hfz35_0
       try clear hfz35_1
       try clear hfz35_2
       try clear hfz35_3
       try clear hfz35_4
       try clear hfz35_5
       try clear hfz35_6
       try clear hfz37_0
       try clear hfz37_1
       try clear hfz37_2
       try clear hfz37_3
       try clear hfz37_4
       try clear hfz37_5
       try clear hfz37_6
       try clear hfz39_0
       try clear hfz39_1
       try clear hfz39_2
       try clear hfz39_3
       try clear hfz39_4
       try clear hfz39_5
       try clear hfz39_6
       try clear hfz41_0
       try clear hfz41_1
       try clear hfz41_2
       try clear hfz41_3
       try clear hfz41_4
       try clear hfz41_5
       try clear hfz41_6
       try clear hfz7_0
       try clear hfz7_1
       try clear hfz7_2
       try clear hfz7_3
       try clear hfz7_4
       try clear hfz7_5
       try clear hfz7_6
       try clear hx213_0
       try clear hx213_1
       try clear hx213_2
       try clear hx213_3
       try clear hx213_4
       try clear hx213_5
       try clear hx213_6
       try clear p2
       try clear p213
       try clear q213
       obtain ⟨kq, x21_4, rfl, HA, HJ4, BK214, BK215, HB⟩ := hcut
       cases kq with
       | zero => exact absurd HA.out (by simp [skiarearef51_Right.j1])
       | succ kj4 =>
        have H := HA.out; clear HA; simp only [skiarearef51_Right.j1] at H
        by_cases c42 : x21_4 = true
        ·
         subst c42; have H1 : (some 2) = some r := by rw [if_pos rfl] at H; exact H
         clear H; have H := H1; clear H1; obtain rfl := Option.some.inj H; go_wp2
         go_ret
         exact ⟨by first | rfl | (simp [errW_none, errW_some] <;> rfl) | (simp [*, errW_none, errW_some] <;> rfl), by repeat (first | (with_reducible first | exact HB.out | apply lA_ | apply lN_ | apply lD_ | refine lS_ ?_ GE214.out | refine lS_ ?_ GE215.out) | exact HB.out)⟩
        ·
         replace c42 := Bool.eq_false_iff.mpr c42; subst c42; have H1 : (if 0 ≤ x3_1 then (if x3_1 ≤ (l0.length : Int) then ((skiarearef51_index.f kj4 (l0.take (x3_1 : Int).toNat) ((rd_T30 l0 x3_1).f0)).bind fun t225 => (if t225 ≥ 0 then (some 7) else ((skiarearef51_open.f ((rd_T30 l0 x3_1).f0) ((rd_T30 l0 x3_1).f1) ((rd_T30 l0 x3_1).f2) ((rd_T30 l0 x3_1).f3) ((rd_T30 l0 x3_1).f4) ((rd_T30 l0 x3_1).f5.f0) ((rd_T30 l0 x3_1).f5.f1)).bind fun t226 => (if t226 = true then ((skiarearef51_taken.f kj4 (l0.take (x3_1 : Int).toNat) ((rd_T30 l0 x3_1).f1)).bind fun t231 => (if t231 = true then (some 15) else (skiarearef51_Right.l0 kj4 l0 (wrap64 (x3_1 + 1))))) else (skiarearef51_Right.l0 kj4 l0 (wrap64 (x3_1 + 1))))))) else (none)) else (none)) = some r := by rw [if_neg (show ¬ (false = true) by decide)] at H; exact H
         clear H; have H := H1; clear H1; by_cases c43 : 0 ≤ x3_1
         ·
          rw [if_pos c43] at H
          have c43b0 := eq_true c43; have c43b1 : decide (0 ≤ x3_1) = true := decide_eq_true c43; clear c43; by_cases c44 : x3_1 ≤ (l0.length : Int)
          ·
           rw [if_pos c44] at H
           have c44b0 := eq_true c44; have c44b1 : decide (x3_1 ≤ (l0.length : Int)) = true := decide_eq_true c44; clear c44; obtain ⟨y221, hy221⟩ : ∃ y_ : List (S30), y_ = (l0.take (x3_1 : Int).toNat) := ⟨_, rfl⟩; replace H : ((skiarearef51_index.f kj4 y221 ((rd_T30 l0 x3_1).f0)).bind fun t225 => (if t225 ≥ 0 then (some 7) else ((skiarearef51_open.f ((rd_T30 l0 x3_1).f0) ((rd_T30 l0 x3_1).f1) ((rd_T30 l0 x3_1).f2) ((rd_T30 l0 x3_1).f3) ((rd_T30 l0 x3_1).f4) ((rd_T30 l0 x3_1).f5.f0) ((rd_T30 l0 x3_1).f5.f1)).bind fun t226 => (if t226 = true then ((skiarearef51_taken.f kj4 (l0.take (x3_1 : Int).toNat) ((rd_T30 l0 x3_1).f1)).bind fun t231 => (if t231 = true then (some 15) else (skiarearef51_Right.l0 kj4 l0 (wrap64 (x3_1 + 1))))) else (skiarearef51_Right.l0 kj4 l0 (wrap64 (x3_1 + 1))))))) = some r := by first | (rw [hy221]; with_reducible exact H) | (have H2_ := (Option.bind_some _ _).symm.trans H; rw [hy221]; with_reducible exact H2_) | (have H2_ := (Option.bind_some _ _).symm.trans H; with_reducible exact H2_) | with_reducible exact H | (rw [hy221]; exact H) | exact H
           have Ny221 := Aside0.mk hy221; clear hy221; replace H := Option.bind_eq_some_iff.mp H; obtain ⟨t225, A450, H⟩ := H; replace H : (if t225 ≥ 0 then (some 7) else ((skiarearef51_open.f ((rd_T30 l0 x3_1).f0) ((rd_T30 l0 x3_1).f1) ((rd_T30 l0 x3_1).f2) ((rd_T30 l0 x3_1).f3) ((rd_T30 l0 x3_1).f4) ((rd_T30 l0 x3_1).f5.f0) ((rd_T30 l0 x3_1).f5.f1)).bind fun t226 => (if t226 = true then ((skiarearef51_taken.f kj4 (l0.take (x3_1 : Int).toNat) ((rd_T30 l0 x3_1).f1)).bind fun t231 => (if t231 = true then (some 15) else (skiarearef51_Right.l0 kj4 l0 (wrap64 (x3_1 + 1))))) else (skiarearef51_Right.l0 kj4 l0 (wrap64 (x3_1 + 1)))))) = some r := H; have A45 := Aside0.mk A450; clear A450; by_cases c46 : t225 ≥ 0
           ·
            rw [if_pos c46] at H
            have c46b0 : decide (0 ≤ t225) = true := decide_eq_true c46; clear c46; obtain rfl := Option.some.inj H; try go_wp2
            have n0_ := Aside0.mk (bD_ BK214.out); have n1_ := Aside0.mk (bD_ BK215.out); have n2_ := Aside0.mk (lD_ HB.out); clear BK214; clear BK215; clear HB; have BK214 := n0_; have BK215 := n1_; have HB := n2_; clear n0_ n1_ n2_; have q48 : (x3_1 : Int) ≤ ((l0.length : Int) : Int) := of_decide_eq_true (by first | (with_reducible assumption) | assumption); obtain ⟨i048, hi048, _, hsz48, _⟩ := info_parts info30; have hroom48 : l0.length ≤ c0 := HC0.out; have hC48 : Kd.C k30 _ (some ad213) l0.length l0 := HR0.out; have hcut48 := cut_to (P := Try.prog) 22 30 .i64 Try.underlying22 hi048 (some ad213) l0.length c0 x3_1 (of_decide_eq_true (by first | (with_reducible assumption) | assumption)) q48 hroom48; have hr48 := Kd.C_take (m := (x3_1 : Int).toNat) hC48 (by omega); have hy48 : y221.length = (x3_1 : Int).toNat := (by rw [Ny221.out, List.length_take]; omega); rw [← Ny221.out] at hr48
            rw [← hy48] at hcut48
            have HR224 := Aside0.mk hr48; have HC224 := Aside0.mk (show y221.length ≤ c0 from by omega); clear hr48 hC48 hroom48 hi048 hsz48; have KY48 := Aside0.mk hy48; clear hy48; replace q48 := eq_true q48; refine start_ (n := 8) (S := fun w' => w'.cell? ⟨gb214, 0, none⟩ = some (.int .i64 ((rd_T30 l0 x3_1).f0)) ∧ w'.cell? ⟨gb214, 1, none⟩ = some (.int .i64 ((rd_T30 l0 x3_1).f1)) ∧ w'.cell? ⟨gb214, 2, none⟩ = some (.int .i64 ((rd_T30 l0 x3_1).f2)) ∧ w'.cell? ⟨gb214, 3, none⟩ = some (.int .i64 ((rd_T30 l0 x3_1).f3)) ∧ w'.cell? ⟨gb214, 4, none⟩ = some (.int .i64 ((rd_T30 l0 x3_1).f4)) ∧ w'.cell? ⟨gb214, 5, none⟩ = some (.int .i64 ((rd_T30 l0 x3_1).f5.f0)) ∧ w'.cell? ⟨gb214, 6, none⟩ = some (.int .i64 ((rd_T30 l0 x3_1).f5.f1))) (ds := []) #[false, false, false, false, false, false, false, false] (by kernel_rfl) rfl rfl ⟨(blk_cell BK214.out 0).trans rfl, (blk_cell BK214.out 1).trans rfl, (blk_cell BK214.out 2).trans rfl, (blk_cell BK214.out 3).trans rfl, (blk_cell BK214.out 4).trans rfl, (blk_cell BK214.out 5).trans rfl, (blk_cell BK214.out 6).trans rfl⟩ (fun hHeld => ?_); refine with_tabW skiarearef51_Right.tab10 skiarearef51_Right.bits10 (fun HT_ HW_ => ?_)
            generalize wc.drew = w47 at BK214 BK215 HB HR224 hHeld ⊢
            refine pu_ ?_ 0 (some 68) (bN 8 1) rfl rfl HT_ (by kernel_rfl) (fun _ _ _ h => h) (by rfl) ?_ ?_ ?_ ?_; rotate_left; (intro w'; go_simp; with_reducible rfl); rotate_left; (simp only [Act.put, sA_, sB_, sC_, i64_w, i32_w]; rfl)
            refine pu_ ?_ 1 (some 69) (bN 8 3) rfl rfl HT_ (by kernel_rfl) (fun _ _ _ h => h) (by rfl) ?_ ?_ ?_ ?_; rotate_left; (intro w'; go_simp; with_reducible rfl); rotate_left; (simp only [Act.put, sA_, sB_, sC_, i64_w, i32_w]; rfl)
            refine pu_ ?_ 2 (some 70) (bN 8 7) rfl rfl HT_ (by kernel_rfl) (fun _ _ _ h => h) (by rfl) ?_ ?_ ?_ ?_; rotate_left; (intro w'; go_simp; with_reducible rfl); rotate_left; (simp only [Act.put, sA_, sB_, sC_, i64_w, i32_w]; rfl)
            refine pu_ ?_ 3 (some 71) (bN 8 15) rfl rfl HT_ (by kernel_rfl) (fun _ _ _ h => h) (by rfl) ?_ ?_ ?_ ?_; rotate_left; (intro w'; go_simp; with_reducible rfl); rotate_left; (simp only [Act.put, sA_, sB_, sC_, i64_w, i32_w]; rfl)
            refine take_ (i := 4) (N := some 72) (v := ?_) (a' := ?_) (bN 8 31) rfl rfl (take_ofW HT_.out HW_.out (by kernel_rfl)) (fun _ _ _ h => h) (Or.inl ⟨by rfl, ?_⟩) hHeld ?_ ?_
            rotate_left
            ·
             rintro w' ⟨s0, s1, s2, s3, s4, s5, s6⟩; go_simp
             with_reducible rfl
            rotate_left
            ·
             simp only [Act.put, List.setIfInBounds_toArray, List.set_cons_zero, List.set_cons_succ, i64_w, i32_w]; rfl
            refine one_ (i := 5) (N := some 73) (bN 8 63) rfl rfl (one_of HT_.out (by kernel_rfl)) (by decide) (fun K hK => ?_)
            refine goes_ Try.func41 (by kernel_rfl) rfl #[.slice (some ad213) y221.length c0, .int .i64 ((rd_T30 l0 x3_1).f0)] (by rfl) rfl rfl (by (try simp only [List.map_toArray, List.map_cons, List.map_nil]); first | done | rfl | (simp only [List.length_drop, List.length_take]; rfl)) ?_
            with_reducible refine (skiarearef51_index.calls kj4 _ _ y221 ((rd_T30 l0 x3_1).f0) t225 _ ?side1 ?side2 A45.out).mono ?_
            (case side1 => repeat (first | exact (Kd.C_below HR224.out HB.out) | (with_reducible refine Kd.cA_ ?_ _) | (with_reducible refine Kd.cN_ ?_ _) | (with_reducible refine Kd.cD_ ?_))); (case side2 => exact HC224.out); rintro e w' ⟨rfl, ⟨nd, rfl⟩⟩; refine ⟨_, rfl, ?_⟩
            refine hK.out _ _ ⟨(blk_cell BK214.out 0).trans rfl, (blk_cell BK214.out 1).trans rfl, (blk_cell BK214.out 2).trans rfl, (blk_cell BK214.out 3).trans rfl, (blk_cell BK214.out 4).trans rfl, (blk_cell BK214.out 5).trans rfl, (blk_cell BK214.out 6).trans rfl⟩ (fun hHeld => ?_)
            clear hK K; refine norm_ (a' := ?_) ?_ ?_
            rotate_left
            ·
             show Act.put _ (some 73) _ = _
             simp only [Act.put, List.setIfInBounds_toArray, List.set_cons_zero, List.set_cons_succ, i64_w, i32_w]; rfl
            refine pu_ ?_ 6 (some 74) (bN 8 127) rfl rfl HT_ (by kernel_rfl) (fun _ _ _ h => h) (by rfl) ?_ ?_ ?_ ?_; rotate_left; (intro w'; go_simp; with_reducible rfl); rotate_left; (simp only [Act.put, sA_, sB_, sC_, i64_w, i32_w]; rfl)
            refine pu_ ?_ 7 (some 67) (bN 8 255) rfl rfl HT_ (by kernel_rfl) (fun _ _ _ h => h) (by rfl) ?_ ?_ ?_ ?_; rotate_left; (intro w'; go_simp; with_reducible rfl); rotate_left; (simp only [Act.put, sA_, sB_, sC_, i64_w, i32_w]; rfl)
            refine done_ (done_of HT_.out (by kernel_rfl)) ?_
            try go_wp2
            go_ret
            exact ⟨by first | rfl | (simp [errW_none, errW_some] <;> rfl) | (simp [*, errW_none, errW_some] <;> rfl), by repeat (first | (with_reducible first | exact HB.out | apply lA_ | apply lN_ | apply lD_ | refine lS_ ?_ GE214.out | refine lS_ ?_ GE215.out) | exact HB.out)⟩
           ·
            rw [if_neg c46] at H
            have c46b0 : decide (0 ≤ t225) = false := decide_eq_false c46; clear c46; replace H := Option.bind_eq_some_iff.mp H; obtain ⟨t226, A490, H⟩ := H; replace H : (if t226 = true then ((skiarearef51_taken.f kj4 (l0.take (x3_1 : Int).toNat) ((rd_T30 l0 x3_1).f1)).bind fun t231 => (if t231 = true then (some 15) else (skiarearef51_Right.l0 kj4 l0 (wrap64 (x3_1 + 1))))) else (skiarearef51_Right.l0 kj4 l0 (wrap64 (x3_1 + 1)))) = some r := H; have A49 := Aside0.mk A490; clear A490; by_cases c50 : t226 = true
            ·
             subst c50; have H1 : ((skiarearef51_taken.f kj4 (l0.take (x3_1 : Int).toNat) ((rd_T30 l0 x3_1).f1)).bind fun t231 => (if t231 = true then (some 15) else (skiarearef51_Right.l0 kj4 l0 (wrap64 (x3_1 + 1))))) = some r := by rw [if_pos rfl] at H; exact H
             clear H; have H := H1; clear H1; have c51b0 := eq_true (of_decide_eq_true (by first | (with_reducible assumption) | assumption) : 0 ≤ x3_1); have c52b0 := eq_true (of_decide_eq_true (by first | (with_reducible assumption) | assumption) : x3_1 ≤ (l0.length : Int)); obtain ⟨y227, hy227⟩ : ∃ y_ : List (S30), y_ = (l0.take (x3_1 : Int).toNat) := ⟨_, rfl⟩; replace H : ((skiarearef51_taken.f kj4 y227 ((rd_T30 l0 x3_1).f1)).bind fun t231 => (if t231 = true then (some 15) else (skiarearef51_Right.l0 kj4 l0 (wrap64 (x3_1 + 1))))) = some r := by first | (rw [hy227]; with_reducible exact H) | (have H2_ := (Option.bind_some _ _).symm.trans H; rw [hy227]; with_reducible exact H2_) | (have H2_ := (Option.bind_some _ _).symm.trans H; with_reducible exact H2_) | with_reducible exact H | (rw [hy227]; exact H) | exact H
             have Ny227 := Aside0.mk hy227; clear hy227; replace H := Option.bind_eq_some_iff.mp H; obtain ⟨t231, A530, H⟩ := H; replace H : (if t231 = true then (some 15) else (skiarearef51_Right.l0 kj4 l0 (wrap64 (x3_1 + 1)))) = some r := H; have A53 := Aside0.mk A530; clear A530; by_cases c54 : t231 = true
             ·
              subst c54; have H1 : (some 15) = some r := by rw [if_pos rfl] at H; exact H
              clear H; have H := H1; clear H1; obtain rfl := Option.some.inj H; try go_wp2
              have n0_ := Aside0.mk (bD_ BK214.out); have n1_ := Aside0.mk (bD_ BK215.out); have n2_ := Aside0.mk (lD_ HB.out); clear BK214; clear BK215; clear HB; have BK214 := n0_; have BK215 := n1_; have HB := n2_; clear n0_ n1_ n2_; have q56 : (x3_1 : Int) ≤ ((l0.length : Int) : Int) := of_decide_eq_true (by first | (with_reducible assumption) | assumption); obtain ⟨i056, hi056, _, hsz56, _⟩ := info_parts info30; have hroom56 : l0.length ≤ c0 := HC0.out; have hC56 : Kd.C k30 _ (some ad213) l0.length l0 := HR0.out; try clear hcut48
              have hcut56 := cut_to (P := Try.prog) 22 30 .i64 Try.underlying22 hi056 (some ad213) l0.length c0 x3_1 (of_decide_eq_true (by first | (with_reducible assumption) | assumption)) q56 hroom56; have hr56 := Kd.C_take (m := (x3_1 : Int).toNat) hC56 (by omega); have hy56 : y221.length = (x3_1 : Int).toNat := (by rw [Ny221.out, List.length_take]; omega); rw [← Ny221.out] at hr56
              rw [← hy56] at hcut56
              have HR224 := Aside0.mk hr56; have HC224 := Aside0.mk (show y221.length ≤ c0 from by omega); clear hr56 hC56 hroom56 hi056 hsz56; have KY56 := Aside0.mk hy56; clear hy56; replace q56 := eq_true q56; refine start_ (n := 8) (S := fun w' => w'.cell? ⟨gb214, 0, none⟩ = some (.int .i64 ((rd_T30 l0 x3_1).f0)) ∧ w'.cell? ⟨gb214, 1, none⟩ = some (.int .i64 ((rd_T30 l0 x3_1).f1)) ∧ w'.cell? ⟨gb214, 2, none⟩ = some (.int .i64 ((rd_T30 l0 x3_1).f2)) ∧ w'.cell? ⟨gb214, 3, none⟩ = some (.int .i64 ((rd_T30 l0 x3_1).f3)) ∧ w'.cell? ⟨gb214, 4, none⟩ = some (.int .i64 ((rd_T30 l0 x3_1).f4)) ∧ w'.cell? ⟨gb214, 5, none⟩ = some (.int .i64 ((rd_T30 l0 x3_1).f5.f0)) ∧ w'.cell? ⟨gb214, 6, none⟩ = some (.int .i64 ((rd_T30 l0 x3_1).f5.f1))) (ds := []) #[false, false, false, false, false, false, false, false] (by kernel_rfl) rfl rfl ⟨(blk_cell BK214.out 0).trans rfl, (blk_cell BK214.out 1).trans rfl, (blk_cell BK214.out 2).trans rfl, (blk_cell BK214.out 3).trans rfl, (blk_cell BK214.out 4).trans rfl, (blk_cell BK214.out 5).trans rfl, (blk_cell BK214.out 6).trans rfl⟩ (fun hHeld => ?_); refine with_tabW skiarearef51_Right.tab10 skiarearef51_Right.bits10 (fun HT_ HW_ => ?_)
              generalize wc.drew = w55 at BK214 BK215 HB HR224 hHeld ⊢
              refine pu_ ?_ 0 (some 68) (bN 8 1) rfl rfl HT_ (by kernel_rfl) (fun _ _ _ h => h) (by rfl) ?_ ?_ ?_ ?_; rotate_left; (intro w'; go_simp; with_reducible rfl); rotate_left; (simp only [Act.put, sA_, sB_, sC_, i64_w, i32_w]; rfl)
              refine pu_ ?_ 1 (some 69) (bN 8 3) rfl rfl HT_ (by kernel_rfl) (fun _ _ _ h => h) (by rfl) ?_ ?_ ?_ ?_; rotate_left; (intro w'; go_simp; with_reducible rfl); rotate_left; (simp only [Act.put, sA_, sB_, sC_, i64_w, i32_w]; rfl)
              refine pu_ ?_ 2 (some 70) (bN 8 7) rfl rfl HT_ (by kernel_rfl) (fun _ _ _ h => h) (by rfl) ?_ ?_ ?_ ?_; rotate_left; (intro w'; go_simp; with_reducible rfl); rotate_left; (simp only [Act.put, sA_, sB_, sC_, i64_w, i32_w]; rfl)
              refine pu_ ?_ 3 (some 71) (bN 8 15) rfl rfl HT_ (by kernel_rfl) (fun _ _ _ h => h) (by rfl) ?_ ?_ ?_ ?_; rotate_left; (intro w'; go_simp; with_reducible rfl); rotate_left; (simp only [Act.put, sA_, sB_, sC_, i64_w, i32_w]; rfl)
              refine take_ (i := 4) (N := some 72) (v := ?_) (a' := ?_) (bN 8 31) rfl rfl (take_ofW HT_.out HW_.out (by kernel_rfl)) (fun _ _ _ h => h) (Or.inl ⟨by rfl, ?_⟩) hHeld ?_ ?_
              rotate_left
              ·
               rintro w' ⟨s0, s1, s2, s3, s4, s5, s6⟩; go_simp
               with_reducible rfl
              rotate_left
              ·
               simp only [Act.put, List.setIfInBounds_toArray, List.set_cons_zero, List.set_cons_succ, i64_w, i32_w]; rfl
              refine one_ (i := 5) (N := some 73) (bN 8 63) rfl rfl (one_of HT_.out (by kernel_rfl)) (by decide) (fun K hK => ?_)
              refine goes_ Try.func41 (by kernel_rfl) rfl #[.slice (some ad213) y221.length c0, .int .i64 ((rd_T30 l0 x3_1).f0)] (by rfl) rfl rfl (by (try simp only [List.map_toArray, List.map_cons, List.map_nil]); first | done | rfl | (simp only [List.length_drop, List.length_take]; rfl)) ?_
              with_reducible refine (skiarearef51_index.calls kj4 _ _ y221 ((rd_T30 l0 x3_1).f0) t225 _ ?side1 ?side2 A45.out).mono ?_
              (case side1 => repeat (first | exact (Kd.C_below HR224.out HB.out) | (with_reducible refine Kd.cA_ ?_ _) | (with_reducible refine Kd.cN_ ?_ _) | (with_reducible refine Kd.cD_ ?_))); (case side2 => exact HC224.out); rintro e w' ⟨rfl, ⟨nd, rfl⟩⟩; refine ⟨_, rfl, ?_⟩
              refine hK.out _ _ ⟨(blk_cell BK214.out 0).trans rfl, (blk_cell BK214.out 1).trans rfl, (blk_cell BK214.out 2).trans rfl, (blk_cell BK214.out 3).trans rfl, (blk_cell BK214.out 4).trans rfl, (blk_cell BK214.out 5).trans rfl, (blk_cell BK214.out 6).trans rfl⟩ (fun hHeld => ?_)
              clear hK K; refine norm_ (a' := ?_) ?_ ?_
              rotate_left
              ·
               show Act.put _ (some 73) _ = _
               simp only [Act.put, List.setIfInBounds_toArray, List.set_cons_zero, List.set_cons_succ, i64_w, i32_w]; rfl
              refine pu_ ?_ 6 (some 74) (bN 8 127) rfl rfl HT_ (by kernel_rfl) (fun _ _ _ h => h) (by rfl) ?_ ?_ ?_ ?_; rotate_left; (intro w'; go_simp; with_reducible rfl); rotate_left; (simp only [Act.put, sA_, sB_, sC_, i64_w, i32_w]; rfl)
              refine pu_ ?_ 7 (some 67) (bN 8 255) rfl rfl HT_ (by kernel_rfl) (fun _ _ _ h => h) (by rfl) ?_ ?_ ?_ ?_; rotate_left; (intro w'; go_simp; with_reducible rfl); rotate_left; (simp only [Act.put, sA_, sB_, sC_, i64_w, i32_w]; rfl)
              refine done_ (done_of HT_.out (by kernel_rfl)) ?_
              try go_wp2
              (try (rw [drewN_self w55]; generalize hq_ : World.drewN w55 _ = w55; have n0_ : Aside0 (w55.heap[gb214]? = some (.cells #[.int .i64 ((rd_T30 l0 x3_1).f0), .int .i64 ((rd_T30 l0 x3_1).f1), .int .i64 ((rd_T30 l0 x3_1).f2), .int .i64 ((rd_T30 l0 x3_1).f3), .int .i64 ((rd_T30 l0 x3_1).f4), .int .i64 ((rd_T30 l0 x3_1).f5.f0), .int .i64 ((rd_T30 l0 x3_1).f5.f1)] 30 (0, 0))) := ⟨by rw [← hq_]; exact (by (with_reducible repeat (first | refine bN_ ?_ _ | refine bD_ ?_ | refine bA_ ?_ _)); exact BK214.out)⟩; have n1_ : Aside0 (w55.heap[gb215]? = some (.cells #[.int .i64 ((rd_T30 l0 x3_1).f5.f0), .int .i64 ((rd_T30 l0 x3_1).f5.f1)] 28 (0, 0))) := ⟨by rw [← hq_]; exact (by (with_reducible repeat (first | refine bN_ ?_ _ | refine bD_ ?_ | refine bA_ ?_ _)); exact BK215.out)⟩; have n2_ : Aside0 (Below w.heap.size w w55) := ⟨by rw [← hq_]; exact (by repeat (first | (with_reducible first | exact HB.out | apply lA_ | apply lN_ | apply lD_ | refine lS_ ?_ GE214.out | refine lS_ ?_ GE215.out) | exact HB.out))⟩; clear BK214 BK215 HB hq_; have BK214 := n0_; have BK215 := n1_; have HB := n2_; clear n0_ n1_ n2_))
              have n0_ := Aside0.mk (bD_ BK214.out); have n1_ := Aside0.mk (bD_ BK215.out); have n2_ := Aside0.mk (lD_ HB.out); clear BK214; clear BK215; clear HB; have BK214 := n0_; have BK215 := n1_; have HB := n2_; clear n0_ n1_ n2_; refine start_ (n := 11) (S := fun w' => w'.cell? ⟨gb214, 0, none⟩ = some (.int .i64 ((rd_T30 l0 x3_1).f0)) ∧ w'.cell? ⟨gb214, 1, none⟩ = some (.int .i64 ((rd_T30 l0 x3_1).f1)) ∧ w'.cell? ⟨gb214, 2, none⟩ = some (.int .i64 ((rd_T30 l0 x3_1).f2)) ∧ w'.cell? ⟨gb214, 3, none⟩ = some (.int .i64 ((rd_T30 l0 x3_1).f3)) ∧ w'.cell? ⟨gb214, 4, none⟩ = some (.int .i64 ((rd_T30 l0 x3_1).f4)) ∧ w'.cell? ⟨gb214, 5, none⟩ = some (.int .i64 ((rd_T30 l0 x3_1).f5.f0)) ∧ w'.cell? ⟨gb214, 6, none⟩ = some (.int .i64 ((rd_T30 l0 x3_1).f5.f1))) (ds := []) #[false, false, false, false, false, false, false, false, false, false, false] (by kernel_rfl) rfl rfl ⟨(blk_cell BK214.out 0).trans rfl, (blk_cell BK214.out 1).trans rfl, (blk_cell BK214.out 2).trans rfl, (blk_cell BK214.out 3).trans rfl, (blk_cell BK214.out 4).trans rfl, (blk_cell BK214.out 5).trans rfl, (blk_cell BK214.out 6).trans rfl⟩ (fun hHeld => ?_); refine with_tabW skiarearef51_Right.tab12 skiarearef51_Right.bits12 (fun HT_ HW_ => ?_)
              generalize w55.drew = w57 at BK214 BK215 HB hHeld ⊢
              refine take_ (i := 0) (N := some 76) (v := ?_) (a' := ?_) (bN 11 1) rfl rfl (take_ofW HT_.out HW_.out (by kernel_rfl)) (fun _ _ _ h => h) (Or.inl ⟨by rfl, ?_⟩) hHeld ?_ ?_
              rotate_left
              ·
               rintro w' ⟨s0, s1, s2, s3, s4, s5, s6⟩; go_simp
               with_reducible rfl
              rotate_left
              ·
               simp only [Act.put, List.setIfInBounds_toArray, List.set_cons_zero, List.set_cons_succ, i64_w, i32_w]; rfl
              refine one_ (i := 1) (N := some 77) (bN 11 3) rfl rfl (one_of HT_.out (by kernel_rfl)) (by decide) (fun K hK => ?_)
              refine goes_ Try.func42 (by kernel_rfl) rfl #[.agg #[.int .i64 ((rd_T30 l0 x3_1).f0), .int .i64 ((rd_T30 l0 x3_1).f1), .int .i64 ((rd_T30 l0 x3_1).f2), .int .i64 ((rd_T30 l0 x3_1).f3), .int .i64 ((rd_T30 l0 x3_1).f4), .int .i64 ((rd_T30 l0 x3_1).f5.f0), .int .i64 ((rd_T30 l0 x3_1).f5.f1)]] (by rfl) rfl rfl (by (try simp only [List.map_toArray, List.map_cons, List.map_nil]); first | done | rfl | (simp only [List.length_drop, List.length_take]; rfl)) ?_
              with_reducible refine (skiarearef51_open.calls ((rd_T30 l0 x3_1).f0) ((rd_T30 l0 x3_1).f1) ((rd_T30 l0 x3_1).f2) ((rd_T30 l0 x3_1).f3) ((rd_T30 l0 x3_1).f4) ((rd_T30 l0 x3_1).f5.f0) ((rd_T30 l0 x3_1).f5.f1) true _ A49.out).mono ?_
              rintro e w58 ⟨rfl, hb⟩; refine ⟨_, rfl, ?_⟩
              have n0_ := Aside0.mk (blk_below (g := gb214) (o := .cells #[.int .i64 ((rd_T30 l0 x3_1).f0), .int .i64 ((rd_T30 l0 x3_1).f1), .int .i64 ((rd_T30 l0 x3_1).f2), .int .i64 ((rd_T30 l0 x3_1).f3), .int .i64 ((rd_T30 l0 x3_1).f4), .int .i64 ((rd_T30 l0 x3_1).f5.f0), .int .i64 ((rd_T30 l0 x3_1).f5.f1)] 30 (0, 0)) (by (with_reducible repeat (first | refine bN_ ?_ _ | refine bD_ ?_ | refine bA_ ?_ _)); exact BK214.out) hb); have n1_ := Aside0.mk (blk_below (g := gb215) (o := .cells #[.int .i64 ((rd_T30 l0 x3_1).f5.f0), .int .i64 ((rd_T30 l0 x3_1).f5.f1)] 28 (0, 0)) (by (with_reducible repeat (first | refine bN_ ?_ _ | refine bD_ ?_ | refine bA_ ?_ _)); exact BK215.out) hb); have n2_ := Aside0.mk (below_step (by repeat (first | (with_reducible first | exact HB.out | apply lA_ | apply lN_ | apply lD_ | refine lS_ ?_ GE214.out | refine lS_ ?_ GE215.out) | exact HB.out)) hb); clear BK214; clear BK215; clear HB; have BK214 := n0_; have BK215 := n1_; have HB := n2_; clear n0_ n1_ n2_; (try clear hb); (try clear hb2); (try clear hk); (try clear hi); have q59 : (x3_1 : Int) ≤ ((l0.length : Int) : Int) := of_decide_eq_true (by first | (with_reducible assumption) | assumption); obtain ⟨i059, hi059, _, hsz59, _⟩ := info_parts info30; have hroom59 : l0.length ≤ c0 := HC0.out; have hC59 : Kd.C k30 _ (some ad213) l0.length l0 := HR0.out; try clear hcut48
              try clear hcut56
              have hcut59 := cut_to (P := Try.prog) 22 30 .i64 Try.underlying22 hi059 (some ad213) l0.length c0 x3_1 (of_decide_eq_true (by first | (with_reducible assumption) | assumption)) q59 hroom59; have hr59 := Kd.C_take (m := (x3_1 : Int).toNat) hC59 (by omega); have hy59 : y227.length = (x3_1 : Int).toNat := (by rw [Ny227.out, List.length_take]; omega); rw [← Ny227.out] at hr59
              rw [← hy59] at hcut59
              have HR230 := Aside0.mk hr59; have HC230 := Aside0.mk (show y227.length ≤ c0 from by omega); clear hr59 hC59 hroom59 hi059 hsz59; have KY59 := Aside0.mk hy59; clear hy59; replace q59 := eq_true q59; refine hK.out _ _ ⟨(blk_cell BK214.out 0).trans rfl, (blk_cell BK214.out 1).trans rfl, (blk_cell BK214.out 2).trans rfl, (blk_cell BK214.out 3).trans rfl, (blk_cell BK214.out 4).trans rfl, (blk_cell BK214.out 5).trans rfl, (blk_cell BK214.out 6).trans rfl⟩ (fun hHeld => ?_)
              clear hK K; refine norm_ (a' := ?_) ?_ ?_
              rotate_left
              ·
               show Act.put _ (some 77) _ = _
               simp only [Act.put, List.setIfInBounds_toArray, List.set_cons_zero, List.set_cons_succ, i64_w, i32_w]; rfl
              refine pu_ ?_ 2 (some 78) (bN 11 7) rfl rfl HT_ (by kernel_rfl) (fun _ _ _ h => h) (by rfl) ?_ ?_ ?_ ?_; rotate_left; (intro w'; go_simp; with_reducible rfl); rotate_left; (simp only [Act.put, sA_, sB_, sC_, i64_w, i32_w]; rfl)
              refine pu_ ?_ 3 (some 79) (bN 11 15) rfl rfl HT_ (by kernel_rfl) (fun _ _ _ h => h) (by rfl) ?_ ?_ ?_ ?_; rotate_left; (intro w'; go_simp; with_reducible rfl); rotate_left; (simp only [Act.put, sA_, sB_, sC_, i64_w, i32_w]; rfl)
              refine pu_ ?_ 4 (some 80) (bN 11 31) rfl rfl HT_ (by kernel_rfl) (fun _ _ _ h => h) (by rfl) ?_ ?_ ?_ ?_; rotate_left; (intro w'; go_simp; with_reducible rfl); rotate_left; (simp only [Act.put, sA_, sB_, sC_, i64_w, i32_w]; rfl)
              refine pu_ ?_ 5 (some 81) (bN 11 63) rfl rfl HT_ (by kernel_rfl) (fun _ _ _ h => h) (by rfl) ?_ ?_ ?_ ?_; rotate_left; (intro w'; go_simp; with_reducible rfl); rotate_left; (simp only [Act.put, sA_, sB_, sC_, i64_w, i32_w]; rfl)
              refine pu_ ?_ 6 (some 82) (bN 11 127) rfl rfl HT_ (by kernel_rfl) (fun _ _ _ h => h) (by rfl) ?_ ?_ ?_ ?_; rotate_left; (intro w'; go_simp; with_reducible rfl); rotate_left; (simp only [Act.put, sA_, sB_, sC_, i64_w, i32_w]; rfl)
              refine take_ (i := 7) (N := some 83) (v := ?_) (a' := ?_) (bN 11 255) rfl rfl (take_ofW HT_.out HW_.out (by kernel_rfl)) (fun _ _ _ h => h) (Or.inl ⟨by rfl, ?_⟩) hHeld ?_ ?_
              rotate_left
              ·
               rintro w' ⟨s0, s1, s2, s3, s4, s5, s6⟩; go_simp
               with_reducible rfl
              rotate_left
              ·
               simp only [Act.put, List.setIfInBounds_toArray, List.set_cons_zero, List.set_cons_succ, i64_w, i32_w]; rfl
              refine one_ (i := 8) (N := some 84) (bN 11 511) rfl rfl (one_of HT_.out (by kernel_rfl)) (by decide) (fun K hK => ?_)
              refine goes_ Try.func43 (by kernel_rfl) rfl #[.slice (some ad213) y227.length c0, .int .i64 ((rd_T30 l0 x3_1).f1)] (by rfl) rfl rfl (by (try simp only [List.map_toArray, List.map_cons, List.map_nil]); first | done | rfl | (simp only [List.length_drop, List.length_take]; rfl)) ?_
              with_reducible refine (skiarearef51_taken.calls kj4 _ _ y227 ((rd_T30 l0 x3_1).f1) true _ ?side1 ?side2 A53.out).mono ?_
              (case side1 => repeat (first | exact (Kd.C_below HR230.out HB.out) | (with_reducible refine Kd.cA_ ?_ _) | (with_reducible refine Kd.cN_ ?_ _) | (with_reducible refine Kd.cD_ ?_))); (case side2 => exact HC230.out); rintro e w60 ⟨rfl, hb⟩; refine ⟨_, rfl, ?_⟩
              have n0_ := Aside0.mk (blk_below (g := gb214) (o := .cells #[.int .i64 ((rd_T30 l0 x3_1).f0), .int .i64 ((rd_T30 l0 x3_1).f1), .int .i64 ((rd_T30 l0 x3_1).f2), .int .i64 ((rd_T30 l0 x3_1).f3), .int .i64 ((rd_T30 l0 x3_1).f4), .int .i64 ((rd_T30 l0 x3_1).f5.f0), .int .i64 ((rd_T30 l0 x3_1).f5.f1)] 30 (0, 0)) (by (with_reducible repeat (first | refine bN_ ?_ _ | refine bD_ ?_ | refine bA_ ?_ _)); exact BK214.out) hb); have n1_ := Aside0.mk (blk_below (g := gb215) (o := .cells #[.int .i64 ((rd_T30 l0 x3_1).f5.f0), .int .i64 ((rd_T30 l0 x3_1).f5.f1)] 28 (0, 0)) (by (with_reducible repeat (first | refine bN_ ?_ _ | refine bD_ ?_ | refine bA_ ?_ _)); exact BK215.out) hb); have n2_ := Aside0.mk (below_step (by repeat (first | (with_reducible first | exact HB.out | apply lA_ | apply lN_ | apply lD_ | refine lS_ ?_ GE214.out | refine lS_ ?_ GE215.out) | exact HB.out)) hb); clear BK214; clear BK215; clear HB; have BK214 := n0_; have BK215 := n1_; have HB := n2_; clear n0_ n1_ n2_; (try clear hb); (try clear hb2); (try clear hk); (try clear hi); refine hK.out _ _ ⟨(blk_cell BK214.out 0).trans rfl, (blk_cell BK214.out 1).trans rfl, (blk_cell BK214.out 2).trans rfl, (blk_cell BK214.out 3).trans rfl, (blk_cell BK214.out 4).trans rfl, (blk_cell BK214.out 5).trans rfl, (blk_cell BK214.out 6).trans rfl⟩ (fun hHeld => ?_)
              clear hK K; refine norm_ (a' := ?_) ?_ ?_
              rotate_left
              ·
               show Act.put _ (some 84) _ = _
               simp only [Act.put, List.setIfInBounds_toArray, List.set_cons_zero, List.set_cons_succ, i64_w, i32_w]; rfl
              refine pu_ ?_ 9 (some 85) (bN 11 1023) rfl rfl HT_ (by kernel_rfl) (fun _ _ _ h => h) (by rfl) ?_ ?_ ?_ ?_; rotate_left; (intro w'; go_simp; with_reducible rfl); rotate_left; (simp only [Act.put, sA_, sB_, sC_, i64_w, i32_w]; rfl)
              refine pu_ ?_ 10 (some 75) (bN 11 2047) rfl rfl HT_ (by kernel_rfl) (fun _ _ _ h => h) (by rfl) ?_ ?_ ?_ ?_; rotate_left; (intro w'; go_simp; with_reducible rfl); rotate_left; (simp only [Act.put, sA_, sB_, sC_, i64_w, i32_w]; rfl)
              refine done_ (done_of HT_.out (by kernel_rfl)) ?_
              try go_wp2
              go_ret
              exact ⟨by first | rfl | (simp [errW_none, errW_some] <;> rfl) | (simp [*, errW_none, errW_some] <;> rfl), by repeat (first | (with_reducible first | exact HB.out | apply lA_ | apply lN_ | apply lD_ | refine lS_ ?_ GE214.out | refine lS_ ?_ GE215.out) | exact HB.out)⟩
             ·
              replace c54 := Bool.eq_false_iff.mpr c54; subst c54; have H1 : (skiarearef51_Right.l0 kj4 l0 (wrap64 (x3_1 + 1))) = some r := by rw [if_neg (show ¬ (false = true) by decide)] at H; exact H
              clear H; have H := H1; clear H1; have H' := Aside0.mk H; clear H; try go_wp2
              have n0_ := Aside0.mk (bD_ BK214.out); have n1_ := Aside0.mk (bD_ BK215.out); have n2_ := Aside0.mk (lD_ HB.out); clear BK214; clear BK215; clear HB; have BK214 := n0_; have BK215 := n1_; have HB := n2_; clear n0_ n1_ n2_; have q62 : (x3_1 : Int) ≤ ((l0.length : Int) : Int) := of_decide_eq_true (by first | (with_reducible assumption) | assumption); obtain ⟨i062, hi062, _, hsz62, _⟩ := info_parts info30; have hroom62 : l0.length ≤ c0 := HC0.out; have hC62 : Kd.C k30 _ (some ad213) l0.length l0 := HR0.out; try clear hcut48
              try clear hcut56
              try clear hcut59
              have hcut62 := cut_to (P := Try.prog) 22 30 .i64 Try.underlying22 hi062 (some ad213) l0.length c0 x3_1 (of_decide_eq_true (by first | (with_reducible assumption) | assumption)) q62 hroom62; have hr62 := Kd.C_take (m := (x3_1 : Int).toNat) hC62 (by omega); have hy62 : y221.length = (x3_1 : Int).toNat := (by rw [Ny221.out, List.length_take]; omega); rw [← Ny221.out] at hr62
              rw [← hy62] at hcut62
              have HR224 := Aside0.mk hr62; have HC224 := Aside0.mk (show y221.length ≤ c0 from by omega); clear hr62 hC62 hroom62 hi062 hsz62; have KY62 := Aside0.mk hy62; clear hy62; replace q62 := eq_true q62; refine start_ (n := 8) (S := fun w' => w'.cell? ⟨gb214, 0, none⟩ = some (.int .i64 ((rd_T30 l0 x3_1).f0)) ∧ w'.cell? ⟨gb214, 1, none⟩ = some (.int .i64 ((rd_T30 l0 x3_1).f1)) ∧ w'.cell? ⟨gb214, 2, none⟩ = some (.int .i64 ((rd_T30 l0 x3_1).f2)) ∧ w'.cell? ⟨gb214, 3, none⟩ = some (.int .i64 ((rd_T30 l0 x3_1).f3)) ∧ w'.cell? ⟨gb214, 4, none⟩ = some (.int .i64 ((rd_T30 l0 x3_1).f4)) ∧ w'.cell? ⟨gb214, 5, none⟩ = some (.int .i64 ((rd_T30 l0 x3_1).f5.f0)) ∧ w'.cell? ⟨gb214, 6, none⟩ = some (.int .i64 ((rd_T30 l0 x3_1).f5.f1))) (ds := []) #[false, false, false, false, false, false, false, false] (by kernel_rfl) rfl rfl ⟨(blk_cell BK214.out 0).trans rfl, (blk_cell BK214.out 1).trans rfl, (blk_cell BK214.out 2).trans rfl, (blk_cell BK214.out 3).trans rfl, (blk_cell BK214.out 4).trans rfl, (blk_cell BK214.out 5).trans rfl, (blk_cell BK214.out 6).trans rfl⟩ (fun hHeld => ?_); refine with_tabW skiarearef51_Right.tab10 skiarearef51_Right.bits10 (fun HT_ HW_ => ?_)
              generalize wc.drew = w61 at BK214 BK215 HB HR224 hHeld ⊢
              refine pu_ ?_ 0 (some 68) (bN 8 1) rfl rfl HT_ (by kernel_rfl) (fun _ _ _ h => h) (by rfl) ?_ ?_ ?_ ?_; rotate_left; (intro w'; go_simp; with_reducible rfl); rotate_left; (simp only [Act.put, sA_, sB_, sC_, i64_w, i32_w]; rfl)
              refine pu_ ?_ 1 (some 69) (bN 8 3) rfl rfl HT_ (by kernel_rfl) (fun _ _ _ h => h) (by rfl) ?_ ?_ ?_ ?_; rotate_left; (intro w'; go_simp; with_reducible rfl); rotate_left; (simp only [Act.put, sA_, sB_, sC_, i64_w, i32_w]; rfl)
              refine pu_ ?_ 2 (some 70) (bN 8 7) rfl rfl HT_ (by kernel_rfl) (fun _ _ _ h => h) (by rfl) ?_ ?_ ?_ ?_; rotate_left; (intro w'; go_simp; with_reducible rfl); rotate_left; (simp only [Act.put, sA_, sB_, sC_, i64_w, i32_w]; rfl)
              refine pu_ ?_ 3 (some 71) (bN 8 15) rfl rfl HT_ (by kernel_rfl) (fun _ _ _ h => h) (by rfl) ?_ ?_ ?_ ?_; rotate_left; (intro w'; go_simp; with_reducible rfl); rotate_left; (simp only [Act.put, sA_, sB_, sC_, i64_w, i32_w]; rfl)
              refine take_ (i := 4) (N := some 72) (v := ?_) (a' := ?_) (bN 8 31) rfl rfl (take_ofW HT_.out HW_.out (by kernel_rfl)) (fun _ _ _ h => h) (Or.inl ⟨by rfl, ?_⟩) hHeld ?_ ?_
              rotate_left
              ·
               rintro w' ⟨s0, s1, s2, s3, s4, s5, s6⟩; go_simp
               with_reducible rfl
              rotate_left
              ·
               simp only [Act.put, List.setIfInBounds_toArray, List.set_cons_zero, List.set_cons_succ, i64_w, i32_w]; rfl
              refine one_ (i := 5) (N := some 73) (bN 8 63) rfl rfl (one_of HT_.out (by kernel_rfl)) (by decide) (fun K hK => ?_)
              refine goes_ Try.func41 (by kernel_rfl) rfl #[.slice (some ad213) y221.length c0, .int .i64 ((rd_T30 l0 x3_1).f0)] (by rfl) rfl rfl (by (try simp only [List.map_toArray, List.map_cons, List.map_nil]); first | done | rfl | (simp only [List.length_drop, List.length_take]; rfl)) ?_
              with_reducible refine (skiarearef51_index.calls kj4 _ _ y221 ((rd_T30 l0 x3_1).f0) t225 _ ?side1 ?side2 A45.out).mono ?_
              (case side1 => repeat (first | exact (Kd.C_below HR224.out HB.out) | (with_reducible refine Kd.cA_ ?_ _) | (with_reducible refine Kd.cN_ ?_ _) | (with_reducible refine Kd.cD_ ?_))); (case side2 => exact HC224.out); rintro e w' ⟨rfl, ⟨nd, rfl⟩⟩; refine ⟨_, rfl, ?_⟩
              refine hK.out _ _ ⟨(blk_cell BK214.out 0).trans rfl, (blk_cell BK214.out 1).trans rfl, (blk_cell BK214.out 2).trans rfl, (blk_cell BK214.out 3).trans rfl, (blk_cell BK214.out 4).trans rfl, (blk_cell BK214.out 5).trans rfl, (blk_cell BK214.out 6).trans rfl⟩ (fun hHeld => ?_)
              clear hK K; refine norm_ (a' := ?_) ?_ ?_
              rotate_left
              ·
               show Act.put _ (some 73) _ = _
               simp only [Act.put, List.setIfInBounds_toArray, List.set_cons_zero, List.set_cons_succ, i64_w, i32_w]; rfl
              refine pu_ ?_ 6 (some 74) (bN 8 127) rfl rfl HT_ (by kernel_rfl) (fun _ _ _ h => h) (by rfl) ?_ ?_ ?_ ?_; rotate_left; (intro w'; go_simp; with_reducible rfl); rotate_left; (simp only [Act.put, sA_, sB_, sC_, i64_w, i32_w]; rfl)
              refine pu_ ?_ 7 (some 67) (bN 8 255) rfl rfl HT_ (by kernel_rfl) (fun _ _ _ h => h) (by rfl) ?_ ?_ ?_ ?_; rotate_left; (intro w'; go_simp; with_reducible rfl); rotate_left; (simp only [Act.put, sA_, sB_, sC_, i64_w, i32_w]; rfl)
              refine done_ (done_of HT_.out (by kernel_rfl)) ?_
              try go_wp2
              (try (rw [drewN_self w61]; generalize hq_ : World.drewN w61 _ = w61; have n0_ : Aside0 (w61.heap[gb214]? = some (.cells #[.int .i64 ((rd_T30 l0 x3_1).f0), .int .i64 ((rd_T30 l0 x3_1).f1), .int .i64 ((rd_T30 l0 x3_1).f2), .int .i64 ((rd_T30 l0 x3_1).f3), .int .i64 ((rd_T30 l0 x3_1).f4), .int .i64 ((rd_T30 l0 x3_1).f5.f0), .int .i64 ((rd_T30 l0 x3_1).f5.f1)] 30 (0, 0))) := ⟨by rw [← hq_]; exact (by (with_reducible repeat (first | refine bN_ ?_ _ | refine bD_ ?_ | refine bA_ ?_ _)); exact BK214.out)⟩; have n1_ : Aside0 (w61.heap[gb215]? = some (.cells #[.int .i64 ((rd_T30 l0 x3_1).f5.f0), .int .i64 ((rd_T30 l0 x3_1).f5.f1)] 28 (0, 0))) := ⟨by rw [← hq_]; exact (by (with_reducible repeat (first | refine bN_ ?_ _ | refine bD_ ?_ | refine bA_ ?_ _)); exact BK215.out)⟩; have n2_ : Aside0 (Below w.heap.size w w61) := ⟨by rw [← hq_]; exact (by repeat (first | (with_reducible first | exact HB.out | apply lA_ | apply lN_ | apply lD_ | refine lS_ ?_ GE214.out | refine lS_ ?_ GE215.out) | exact HB.out))⟩; clear BK214 BK215 HB hq_; have BK214 := n0_; have BK215 := n1_; have HB := n2_; clear n0_ n1_ n2_))
              have n0_ := Aside0.mk (bD_ BK214.out); have n1_ := Aside0.mk (bD_ BK215.out); have n2_ := Aside0.mk (lD_ HB.out); clear BK214; clear BK215; clear HB; have BK214 := n0_; have BK215 := n1_; have HB := n2_; clear n0_ n1_ n2_; refine start_ (n := 11) (S := fun w' => w'.cell? ⟨gb214, 0, none⟩ = some (.int .i64 ((rd_T30 l0 x3_1).f0)) ∧ w'.cell? ⟨gb214, 1, none⟩ = some (.int .i64 ((rd_T30 l0 x3_1).f1)) ∧ w'.cell? ⟨gb214, 2, none⟩ = some (.int .i64 ((rd_T30 l0 x3_1).f2)) ∧ w'.cell? ⟨gb214, 3, none⟩ = some (.int .i64 ((rd_T30 l0 x3_1).f3)) ∧ w'.cell? ⟨gb214, 4, none⟩ = some (.int .i64 ((rd_T30 l0 x3_1).f4)) ∧ w'.cell? ⟨gb214, 5, none⟩ = some (.int .i64 ((rd_T30 l0 x3_1).f5.f0)) ∧ w'.cell? ⟨gb214, 6, none⟩ = some (.int .i64 ((rd_T30 l0 x3_1).f5.f1))) (ds := []) #[false, false, false, false, false, false, false, false, false, false, false] (by kernel_rfl) rfl rfl ⟨(blk_cell BK214.out 0).trans rfl, (blk_cell BK214.out 1).trans rfl, (blk_cell BK214.out 2).trans rfl, (blk_cell BK214.out 3).trans rfl, (blk_cell BK214.out 4).trans rfl, (blk_cell BK214.out 5).trans rfl, (blk_cell BK214.out 6).trans rfl⟩ (fun hHeld => ?_); refine with_tabW skiarearef51_Right.tab12 skiarearef51_Right.bits12 (fun HT_ HW_ => ?_)
              generalize w61.drew = w63 at BK214 BK215 HB hHeld ⊢
              refine take_ (i := 0) (N := some 76) (v := ?_) (a' := ?_) (bN 11 1) rfl rfl (take_ofW HT_.out HW_.out (by kernel_rfl)) (fun _ _ _ h => h) (Or.inl ⟨by rfl, ?_⟩) hHeld ?_ ?_
              rotate_left
              ·
               rintro w' ⟨s0, s1, s2, s3, s4, s5, s6⟩; go_simp
               with_reducible rfl
              rotate_left
              ·
               simp only [Act.put, List.setIfInBounds_toArray, List.set_cons_zero, List.set_cons_succ, i64_w, i32_w]; rfl
              refine one_ (i := 1) (N := some 77) (bN 11 3) rfl rfl (one_of HT_.out (by kernel_rfl)) (by decide) (fun K hK => ?_)
              refine goes_ Try.func42 (by kernel_rfl) rfl #[.agg #[.int .i64 ((rd_T30 l0 x3_1).f0), .int .i64 ((rd_T30 l0 x3_1).f1), .int .i64 ((rd_T30 l0 x3_1).f2), .int .i64 ((rd_T30 l0 x3_1).f3), .int .i64 ((rd_T30 l0 x3_1).f4), .int .i64 ((rd_T30 l0 x3_1).f5.f0), .int .i64 ((rd_T30 l0 x3_1).f5.f1)]] (by rfl) rfl rfl (by (try simp only [List.map_toArray, List.map_cons, List.map_nil]); first | done | rfl | (simp only [List.length_drop, List.length_take]; rfl)) ?_
              with_reducible refine (skiarearef51_open.calls ((rd_T30 l0 x3_1).f0) ((rd_T30 l0 x3_1).f1) ((rd_T30 l0 x3_1).f2) ((rd_T30 l0 x3_1).f3) ((rd_T30 l0 x3_1).f4) ((rd_T30 l0 x3_1).f5.f0) ((rd_T30 l0 x3_1).f5.f1) true _ A49.out).mono ?_
              rintro e w64 ⟨rfl, hb⟩; refine ⟨_, rfl, ?_⟩
              have n0_ := Aside0.mk (blk_below (g := gb214) (o := .cells #[.int .i64 ((rd_T30 l0 x3_1).f0), .int .i64 ((rd_T30 l0 x3_1).f1), .int .i64 ((rd_T30 l0 x3_1).f2), .int .i64 ((rd_T30 l0 x3_1).f3), .int .i64 ((rd_T30 l0 x3_1).f4), .int .i64 ((rd_T30 l0 x3_1).f5.f0), .int .i64 ((rd_T30 l0 x3_1).f5.f1)] 30 (0, 0)) (by (with_reducible repeat (first | refine bN_ ?_ _ | refine bD_ ?_ | refine bA_ ?_ _)); exact BK214.out) hb); have n1_ := Aside0.mk (blk_below (g := gb215) (o := .cells #[.int .i64 ((rd_T30 l0 x3_1).f5.f0), .int .i64 ((rd_T30 l0 x3_1).f5.f1)] 28 (0, 0)) (by (with_reducible repeat (first | refine bN_ ?_ _ | refine bD_ ?_ | refine bA_ ?_ _)); exact BK215.out) hb); have n2_ := Aside0.mk (below_step (by repeat (first | (with_reducible first | exact HB.out | apply lA_ | apply lN_ | apply lD_ | refine lS_ ?_ GE214.out | refine lS_ ?_ GE215.out) | exact HB.out)) hb); clear BK214; clear BK215; clear HB; have BK214 := n0_; have BK215 := n1_; have HB := n2_; clear n0_ n1_ n2_; (try clear hb); (try clear hb2); (try clear hk); (try clear hi); have q65 : (x3_1 : Int) ≤ ((l0.length : Int) : Int) := of_decide_eq_true (by first | (with_reducible assumption) | assumption); obtain ⟨i065, hi065, _, hsz65, _⟩ := info_parts info30; have hroom65 : l0.length ≤ c0 := HC0.out; have hC65 : Kd.C k30 _ (some ad213) l0.length l0 := HR0.out; try clear hcut48
              try clear hcut56
              try clear hcut59
              try clear hcut62
              have hcut65 := cut_to (P := Try.prog) 22 30 .i64 Try.underlying22 hi065 (some ad213) l0.length c0 x3_1 (of_decide_eq_true (by first | (with_reducible assumption) | assumption)) q65 hroom65; have hr65 := Kd.C_take (m := (x3_1 : Int).toNat) hC65 (by omega); have hy65 : y227.length = (x3_1 : Int).toNat := (by rw [Ny227.out, List.length_take]; omega); rw [← Ny227.out] at hr65
              rw [← hy65] at hcut65
              have HR230 := Aside0.mk hr65; have HC230 := Aside0.mk (show y227.length ≤ c0 from by omega); clear hr65 hC65 hroom65 hi065 hsz65; have KY65 := Aside0.mk hy65; clear hy65; replace q65 := eq_true q65; refine hK.out _ _ ⟨(blk_cell BK214.out 0).trans rfl, (blk_cell BK214.out 1).trans rfl, (blk_cell BK214.out 2).trans rfl, (blk_cell BK214.out 3).trans rfl, (blk_cell BK214.out 4).trans rfl, (blk_cell BK214.out 5).trans rfl, (blk_cell BK214.out 6).trans rfl⟩ (fun hHeld => ?_)
              clear hK K; refine norm_ (a' := ?_) ?_ ?_
              rotate_left
              ·
               show Act.put _ (some 77) _ = _
               simp only [Act.put, List.setIfInBounds_toArray, List.set_cons_zero, List.set_cons_succ, i64_w, i32_w]; rfl
              refine pu_ ?_ 2 (some 78) (bN 11 7) rfl rfl HT_ (by kernel_rfl) (fun _ _ _ h => h) (by rfl) ?_ ?_ ?_ ?_; rotate_left; (intro w'; go_simp; with_reducible rfl); rotate_left; (simp only [Act.put, sA_, sB_, sC_, i64_w, i32_w]; rfl)
              refine pu_ ?_ 3 (some 79) (bN 11 15) rfl rfl HT_ (by kernel_rfl) (fun _ _ _ h => h) (by rfl) ?_ ?_ ?_ ?_; rotate_left; (intro w'; go_simp; with_reducible rfl); rotate_left; (simp only [Act.put, sA_, sB_, sC_, i64_w, i32_w]; rfl)
              refine pu_ ?_ 4 (some 80) (bN 11 31) rfl rfl HT_ (by kernel_rfl) (fun _ _ _ h => h) (by rfl) ?_ ?_ ?_ ?_; rotate_left; (intro w'; go_simp; with_reducible rfl); rotate_left; (simp only [Act.put, sA_, sB_, sC_, i64_w, i32_w]; rfl)
              refine pu_ ?_ 5 (some 81) (bN 11 63) rfl rfl HT_ (by kernel_rfl) (fun _ _ _ h => h) (by rfl) ?_ ?_ ?_ ?_; rotate_left; (intro w'; go_simp; with_reducible rfl); rotate_left; (simp only [Act.put, sA_, sB_, sC_, i64_w, i32_w]; rfl)
              refine pu_ ?_ 6 (some 82) (bN 11 127) rfl rfl HT_ (by kernel_rfl) (fun _ _ _ h => h) (by rfl) ?_ ?_ ?_ ?_; rotate_left; (intro w'; go_simp; with_reducible rfl); rotate_left; (simp only [Act.put, sA_, sB_, sC_, i64_w, i32_w]; rfl)
              refine take_ (i := 7) (N := some 83) (v := ?_) (a' := ?_) (bN 11 255) rfl rfl (take_ofW HT_.out HW_.out (by kernel_rfl)) (fun _ _ _ h => h) (Or.inl ⟨by rfl, ?_⟩) hHeld ?_ ?_
              rotate_left
              ·
               rintro w' ⟨s0, s1, s2, s3, s4, s5, s6⟩; go_simp
               with_reducible rfl
              rotate_left
              ·
               simp only [Act.put, List.setIfInBounds_toArray, List.set_cons_zero, List.set_cons_succ, i64_w, i32_w]; rfl
              refine one_ (i := 8) (N := some 84) (bN 11 511) rfl rfl (one_of HT_.out (by kernel_rfl)) (by decide) (fun K hK => ?_)
              refine goes_ Try.func43 (by kernel_rfl) rfl #[.slice (some ad213) y227.length c0, .int .i64 ((rd_T30 l0 x3_1).f1)] (by rfl) rfl rfl (by (try simp only [List.map_toArray, List.map_cons, List.map_nil]); first | done | rfl | (simp only [List.length_drop, List.length_take]; rfl)) ?_
              with_reducible refine (skiarearef51_taken.calls kj4 _ _ y227 ((rd_T30 l0 x3_1).f1) false _ ?side1 ?side2 A53.out).mono ?_
              (case side1 => repeat (first | exact (Kd.C_below HR230.out HB.out) | (with_reducible refine Kd.cA_ ?_ _) | (with_reducible refine Kd.cN_ ?_ _) | (with_reducible refine Kd.cD_ ?_))); (case side2 => exact HC230.out); rintro e w66 ⟨rfl, hb⟩; refine ⟨_, rfl, ?_⟩
              have n0_ := Aside0.mk (blk_below (g := gb214) (o := .cells #[.int .i64 ((rd_T30 l0 x3_1).f0), .int .i64 ((rd_T30 l0 x3_1).f1), .int .i64 ((rd_T30 l0 x3_1).f2), .int .i64 ((rd_T30 l0 x3_1).f3), .int .i64 ((rd_T30 l0 x3_1).f4), .int .i64 ((rd_T30 l0 x3_1).f5.f0), .int .i64 ((rd_T30 l0 x3_1).f5.f1)] 30 (0, 0)) (by (with_reducible repeat (first | refine bN_ ?_ _ | refine bD_ ?_ | refine bA_ ?_ _)); exact BK214.out) hb); have n1_ := Aside0.mk (blk_below (g := gb215) (o := .cells #[.int .i64 ((rd_T30 l0 x3_1).f5.f0), .int .i64 ((rd_T30 l0 x3_1).f5.f1)] 28 (0, 0)) (by (with_reducible repeat (first | refine bN_ ?_ _ | refine bD_ ?_ | refine bA_ ?_ _)); exact BK215.out) hb); have n2_ := Aside0.mk (below_step (by repeat (first | (with_reducible first | exact HB.out | apply lA_ | apply lN_ | apply lD_ | refine lS_ ?_ GE214.out | refine lS_ ?_ GE215.out) | exact HB.out)) hb); clear BK214; clear BK215; clear HB; have BK214 := n0_; have BK215 := n1_; have HB := n2_; clear n0_ n1_ n2_; (try clear hb); (try clear hb2); (try clear hk); (try clear hi); refine hK.out _ _ ⟨(blk_cell BK214.out 0).trans rfl, (blk_cell BK214.out 1).trans rfl, (blk_cell BK214.out 2).trans rfl, (blk_cell BK214.out 3).trans rfl, (blk_cell BK214.out 4).trans rfl, (blk_cell BK214.out 5).trans rfl, (blk_cell BK214.out 6).trans rfl⟩ (fun hHeld => ?_)
              clear hK K; refine norm_ (a' := ?_) ?_ ?_
              rotate_left
              ·
               show Act.put _ (some 84) _ = _
               simp only [Act.put, List.setIfInBounds_toArray, List.set_cons_zero, List.set_cons_succ, i64_w, i32_w]; rfl
              refine pu_ ?_ 9 (some 85) (bN 11 1023) rfl rfl HT_ (by kernel_rfl) (fun _ _ _ h => h) (by rfl) ?_ ?_ ?_ ?_; rotate_left; (intro w'; go_simp; with_reducible rfl); rotate_left; (simp only [Act.put, sA_, sB_, sC_, i64_w, i32_w]; rfl)
              refine pu_ ?_ 10 (some 75) (bN 11 2047) rfl rfl HT_ (by kernel_rfl) (fun _ _ _ h => h) (by rfl) ?_ ?_ ?_ ?_; rotate_left; (intro w'; go_simp; with_reducible rfl); rotate_left; (simp only [Act.put, sA_, sB_, sC_, i64_w, i32_w]; rfl)
              refine done_ (done_of HT_.out (by kernel_rfl)) ?_
              try go_wp2
              go_roundg kj4
              case measure => have := HK1.out; have := HJ4.out; omega
              case rel => exact ⟨(wrap64 (x3_1 + 1)), (by first | rfl | (simp; done) | (simp [*]; done)), H', ⟨by have := HK1.out; have := HJ4.out; omega⟩, ⟨by repeat (first | (with_reducible first | exact HB.out | apply lA_ | apply lN_ | apply lD_ | refine lS_ ?_ GE214.out | refine lS_ ?_ GE215.out) | exact HB.out)⟩⟩
            ·
             replace c50 := Bool.eq_false_iff.mpr c50; subst c50; have H1 : (skiarearef51_Right.l0 kj4 l0 (wrap64 (x3_1 + 1))) = some r := by rw [if_neg (show ¬ (false = true) by decide)] at H; exact H
             clear H; have H := H1; clear H1; have H' := Aside0.mk H; clear H; try go_wp2
             have n0_ := Aside0.mk (bD_ BK214.out); have n1_ := Aside0.mk (bD_ BK215.out); have n2_ := Aside0.mk (lD_ HB.out); clear BK214; clear BK215; clear HB; have BK214 := n0_; have BK215 := n1_; have HB := n2_; clear n0_ n1_ n2_; have q68 : (x3_1 : Int) ≤ ((l0.length : Int) : Int) := of_decide_eq_true (by first | (with_reducible assumption) | assumption); obtain ⟨i068, hi068, _, hsz68, _⟩ := info_parts info30; have hroom68 : l0.length ≤ c0 := HC0.out; have hC68 : Kd.C k30 _ (some ad213) l0.length l0 := HR0.out; try clear hcut48
             try clear hcut56
             try clear hcut59
             try clear hcut62
             try clear hcut65
             have hcut68 := cut_to (P := Try.prog) 22 30 .i64 Try.underlying22 hi068 (some ad213) l0.length c0 x3_1 (of_decide_eq_true (by first | (with_reducible assumption) | assumption)) q68 hroom68; have hr68 := Kd.C_take (m := (x3_1 : Int).toNat) hC68 (by omega); have hy68 : y221.length = (x3_1 : Int).toNat := (by rw [Ny221.out, List.length_take]; omega); rw [← Ny221.out] at hr68
             rw [← hy68] at hcut68
             have HR224 := Aside0.mk hr68; have HC224 := Aside0.mk (show y221.length ≤ c0 from by omega); clear hr68 hC68 hroom68 hi068 hsz68; have KY68 := Aside0.mk hy68; clear hy68; replace q68 := eq_true q68; refine start_ (n := 8) (S := fun w' => w'.cell? ⟨gb214, 0, none⟩ = some (.int .i64 ((rd_T30 l0 x3_1).f0)) ∧ w'.cell? ⟨gb214, 1, none⟩ = some (.int .i64 ((rd_T30 l0 x3_1).f1)) ∧ w'.cell? ⟨gb214, 2, none⟩ = some (.int .i64 ((rd_T30 l0 x3_1).f2)) ∧ w'.cell? ⟨gb214, 3, none⟩ = some (.int .i64 ((rd_T30 l0 x3_1).f3)) ∧ w'.cell? ⟨gb214, 4, none⟩ = some (.int .i64 ((rd_T30 l0 x3_1).f4)) ∧ w'.cell? ⟨gb214, 5, none⟩ = some (.int .i64 ((rd_T30 l0 x3_1).f5.f0)) ∧ w'.cell? ⟨gb214, 6, none⟩ = some (.int .i64 ((rd_T30 l0 x3_1).f5.f1))) (ds := []) #[false, false, false, false, false, false, false, false] (by kernel_rfl) rfl rfl ⟨(blk_cell BK214.out 0).trans rfl, (blk_cell BK214.out 1).trans rfl, (blk_cell BK214.out 2).trans rfl, (blk_cell BK214.out 3).trans rfl, (blk_cell BK214.out 4).trans rfl, (blk_cell BK214.out 5).trans rfl, (blk_cell BK214.out 6).trans rfl⟩ (fun hHeld => ?_); refine with_tabW skiarearef51_Right.tab10 skiarearef51_Right.bits10 (fun HT_ HW_ => ?_)
             generalize wc.drew = w67 at BK214 BK215 HB HR224 hHeld ⊢
             refine pu_ ?_ 0 (some 68) (bN 8 1) rfl rfl HT_ (by kernel_rfl) (fun _ _ _ h => h) (by rfl) ?_ ?_ ?_ ?_; rotate_left; (intro w'; go_simp; with_reducible rfl); rotate_left; (simp only [Act.put, sA_, sB_, sC_, i64_w, i32_w]; rfl)
             refine pu_ ?_ 1 (some 69) (bN 8 3) rfl rfl HT_ (by kernel_rfl) (fun _ _ _ h => h) (by rfl) ?_ ?_ ?_ ?_; rotate_left; (intro w'; go_simp; with_reducible rfl); rotate_left; (simp only [Act.put, sA_, sB_, sC_, i64_w, i32_w]; rfl)
             refine pu_ ?_ 2 (some 70) (bN 8 7) rfl rfl HT_ (by kernel_rfl) (fun _ _ _ h => h) (by rfl) ?_ ?_ ?_ ?_; rotate_left; (intro w'; go_simp; with_reducible rfl); rotate_left; (simp only [Act.put, sA_, sB_, sC_, i64_w, i32_w]; rfl)
             refine pu_ ?_ 3 (some 71) (bN 8 15) rfl rfl HT_ (by kernel_rfl) (fun _ _ _ h => h) (by rfl) ?_ ?_ ?_ ?_; rotate_left; (intro w'; go_simp; with_reducible rfl); rotate_left; (simp only [Act.put, sA_, sB_, sC_, i64_w, i32_w]; rfl)
             refine take_ (i := 4) (N := some 72) (v := ?_) (a' := ?_) (bN 8 31) rfl rfl (take_ofW HT_.out HW_.out (by kernel_rfl)) (fun _ _ _ h => h) (Or.inl ⟨by rfl, ?_⟩) hHeld ?_ ?_
             rotate_left
             ·
              rintro w' ⟨s0, s1, s2, s3, s4, s5, s6⟩; go_simp
              with_reducible rfl
             rotate_left
             ·
              simp only [Act.put, List.setIfInBounds_toArray, List.set_cons_zero, List.set_cons_succ, i64_w, i32_w]; rfl
             refine one_ (i := 5) (N := some 73) (bN 8 63) rfl rfl (one_of HT_.out (by kernel_rfl)) (by decide) (fun K hK => ?_)
             refine goes_ Try.func41 (by kernel_rfl) rfl #[.slice (some ad213) y221.length c0, .int .i64 ((rd_T30 l0 x3_1).f0)] (by rfl) rfl rfl (by (try simp only [List.map_toArray, List.map_cons, List.map_nil]); first | done | rfl | (simp only [List.length_drop, List.length_take]; rfl)) ?_
             with_reducible refine (skiarearef51_index.calls kj4 _ _ y221 ((rd_T30 l0 x3_1).f0) t225 _ ?side1 ?side2 A45.out).mono ?_
             (case side1 => repeat (first | exact (Kd.C_below HR224.out HB.out) | (with_reducible refine Kd.cA_ ?_ _) | (with_reducible refine Kd.cN_ ?_ _) | (with_reducible refine Kd.cD_ ?_))); (case side2 => exact HC224.out); rintro e w' ⟨rfl, ⟨nd, rfl⟩⟩; refine ⟨_, rfl, ?_⟩
             refine hK.out _ _ ⟨(blk_cell BK214.out 0).trans rfl, (blk_cell BK214.out 1).trans rfl, (blk_cell BK214.out 2).trans rfl, (blk_cell BK214.out 3).trans rfl, (blk_cell BK214.out 4).trans rfl, (blk_cell BK214.out 5).trans rfl, (blk_cell BK214.out 6).trans rfl⟩ (fun hHeld => ?_)
             clear hK K; refine norm_ (a' := ?_) ?_ ?_
             rotate_left
             ·
              show Act.put _ (some 73) _ = _
              simp only [Act.put, List.setIfInBounds_toArray, List.set_cons_zero, List.set_cons_succ, i64_w, i32_w]; rfl
             refine pu_ ?_ 6 (some 74) (bN 8 127) rfl rfl HT_ (by kernel_rfl) (fun _ _ _ h => h) (by rfl) ?_ ?_ ?_ ?_; rotate_left; (intro w'; go_simp; with_reducible rfl); rotate_left; (simp only [Act.put, sA_, sB_, sC_, i64_w, i32_w]; rfl)
             refine pu_ ?_ 7 (some 67) (bN 8 255) rfl rfl HT_ (by kernel_rfl) (fun _ _ _ h => h) (by rfl) ?_ ?_ ?_ ?_; rotate_left; (intro w'; go_simp; with_reducible rfl); rotate_left; (simp only [Act.put, sA_, sB_, sC_, i64_w, i32_w]; rfl)
             refine done_ (done_of HT_.out (by kernel_rfl)) ?_
             try go_wp2
             (try (rw [drewN_self w67]; generalize hq_ : World.drewN w67 _ = w67; have n0_ : Aside0 (w67.heap[gb214]? = some (.cells #[.int .i64 ((rd_T30 l0 x3_1).f0), .int .i64 ((rd_T30 l0 x3_1).f1), .int .i64 ((rd_T30 l0 x3_1).f2), .int .i64 ((rd_T30 l0 x3_1).f3), .int .i64 ((rd_T30 l0 x3_1).f4), .int .i64 ((rd_T30 l0 x3_1).f5.f0), .int .i64 ((rd_T30 l0 x3_1).f5.f1)] 30 (0, 0))) := ⟨by rw [← hq_]; exact (by (with_reducible repeat (first | refine bN_ ?_ _ | refine bD_ ?_ | refine bA_ ?_ _)); exact BK214.out)⟩; have n1_ : Aside0 (w67.heap[gb215]? = some (.cells #[.int .i64 ((rd_T30 l0 x3_1).f5.f0), .int .i64 ((rd_T30 l0 x3_1).f5.f1)] 28 (0, 0))) := ⟨by rw [← hq_]; exact (by (with_reducible repeat (first | refine bN_ ?_ _ | refine bD_ ?_ | refine bA_ ?_ _)); exact BK215.out)⟩; have n2_ : Aside0 (Below w.heap.size w w67) := ⟨by rw [← hq_]; exact (by repeat (first | (with_reducible first | exact HB.out | apply lA_ | apply lN_ | apply lD_ | refine lS_ ?_ GE214.out | refine lS_ ?_ GE215.out) | exact HB.out))⟩; clear BK214 BK215 HB hq_; have BK214 := n0_; have BK215 := n1_; have HB := n2_; clear n0_ n1_ n2_))
             have n0_ := Aside0.mk (bD_ BK214.out); have n1_ := Aside0.mk (bD_ BK215.out); have n2_ := Aside0.mk (lD_ HB.out); clear BK214; clear BK215; clear HB; have BK214 := n0_; have BK215 := n1_; have HB := n2_; clear n0_ n1_ n2_; refine start_ (n := 11) (S := fun w' => w'.cell? ⟨gb214, 0, none⟩ = some (.int .i64 ((rd_T30 l0 x3_1).f0)) ∧ w'.cell? ⟨gb214, 1, none⟩ = some (.int .i64 ((rd_T30 l0 x3_1).f1)) ∧ w'.cell? ⟨gb214, 2, none⟩ = some (.int .i64 ((rd_T30 l0 x3_1).f2)) ∧ w'.cell? ⟨gb214, 3, none⟩ = some (.int .i64 ((rd_T30 l0 x3_1).f3)) ∧ w'.cell? ⟨gb214, 4, none⟩ = some (.int .i64 ((rd_T30 l0 x3_1).f4)) ∧ w'.cell? ⟨gb214, 5, none⟩ = some (.int .i64 ((rd_T30 l0 x3_1).f5.f0)) ∧ w'.cell? ⟨gb214, 6, none⟩ = some (.int .i64 ((rd_T30 l0 x3_1).f5.f1))) (ds := []) #[false, false, false, false, false, false, false, false, false, false, false] (by kernel_rfl) rfl rfl ⟨(blk_cell BK214.out 0).trans rfl, (blk_cell BK214.out 1).trans rfl, (blk_cell BK214.out 2).trans rfl, (blk_cell BK214.out 3).trans rfl, (blk_cell BK214.out 4).trans rfl, (blk_cell BK214.out 5).trans rfl, (blk_cell BK214.out 6).trans rfl⟩ (fun hHeld => ?_); refine with_tabW skiarearef51_Right.tab12 skiarearef51_Right.bits12 (fun HT_ HW_ => ?_)
             generalize w67.drew = w69 at BK214 BK215 HB hHeld ⊢
             refine take_ (i := 0) (N := some 76) (v := ?_) (a' := ?_) (bN 11 1) rfl rfl (take_ofW HT_.out HW_.out (by kernel_rfl)) (fun _ _ _ h => h) (Or.inl ⟨by rfl, ?_⟩) hHeld ?_ ?_
             rotate_left
             ·
              rintro w' ⟨s0, s1, s2, s3, s4, s5, s6⟩; go_simp
              with_reducible rfl
             rotate_left
             ·
              simp only [Act.put, List.setIfInBounds_toArray, List.set_cons_zero, List.set_cons_succ, i64_w, i32_w]; rfl
             refine one_ (i := 1) (N := some 77) (bN 11 3) rfl rfl (one_of HT_.out (by kernel_rfl)) (by decide) (fun K hK => ?_)
             refine goes_ Try.func42 (by kernel_rfl) rfl #[.agg #[.int .i64 ((rd_T30 l0 x3_1).f0), .int .i64 ((rd_T30 l0 x3_1).f1), .int .i64 ((rd_T30 l0 x3_1).f2), .int .i64 ((rd_T30 l0 x3_1).f3), .int .i64 ((rd_T30 l0 x3_1).f4), .int .i64 ((rd_T30 l0 x3_1).f5.f0), .int .i64 ((rd_T30 l0 x3_1).f5.f1)]] (by rfl) rfl rfl (by (try simp only [List.map_toArray, List.map_cons, List.map_nil]); first | done | rfl | (simp only [List.length_drop, List.length_take]; rfl)) ?_
             with_reducible refine (skiarearef51_open.calls ((rd_T30 l0 x3_1).f0) ((rd_T30 l0 x3_1).f1) ((rd_T30 l0 x3_1).f2) ((rd_T30 l0 x3_1).f3) ((rd_T30 l0 x3_1).f4) ((rd_T30 l0 x3_1).f5.f0) ((rd_T30 l0 x3_1).f5.f1) false _ A49.out).mono ?_
             rintro e w70 ⟨rfl, hb⟩; refine ⟨_, rfl, ?_⟩
             have n0_ := Aside0.mk (blk_below (g := gb214) (o := .cells #[.int .i64 ((rd_T30 l0 x3_1).f0), .int .i64 ((rd_T30 l0 x3_1).f1), .int .i64 ((rd_T30 l0 x3_1).f2), .int .i64 ((rd_T30 l0 x3_1).f3), .int .i64 ((rd_T30 l0 x3_1).f4), .int .i64 ((rd_T30 l0 x3_1).f5.f0), .int .i64 ((rd_T30 l0 x3_1).f5.f1)] 30 (0, 0)) (by (with_reducible repeat (first | refine bN_ ?_ _ | refine bD_ ?_ | refine bA_ ?_ _)); exact BK214.out) hb); have n1_ := Aside0.mk (blk_below (g := gb215) (o := .cells #[.int .i64 ((rd_T30 l0 x3_1).f5.f0), .int .i64 ((rd_T30 l0 x3_1).f5.f1)] 28 (0, 0)) (by (with_reducible repeat (first | refine bN_ ?_ _ | refine bD_ ?_ | refine bA_ ?_ _)); exact BK215.out) hb); have n2_ := Aside0.mk (below_step (by repeat (first | (with_reducible first | exact HB.out | apply lA_ | apply lN_ | apply lD_ | refine lS_ ?_ GE214.out | refine lS_ ?_ GE215.out) | exact HB.out)) hb); clear BK214; clear BK215; clear HB; have BK214 := n0_; have BK215 := n1_; have HB := n2_; clear n0_ n1_ n2_; (try clear hb); (try clear hb2); (try clear hk); (try clear hi); refine hK.out _ _ ⟨(blk_cell BK214.out 0).trans rfl, (blk_cell BK214.out 1).trans rfl, (blk_cell BK214.out 2).trans rfl, (blk_cell BK214.out 3).trans rfl, (blk_cell BK214.out 4).trans rfl, (blk_cell BK214.out 5).trans rfl, (blk_cell BK214.out 6).trans rfl⟩ (fun hHeld => ?_)
             clear hK K; refine norm_ (a' := ?_) ?_ ?_
             rotate_left
             ·
              show Act.put _ (some 77) _ = _
              simp only [Act.put, List.setIfInBounds_toArray, List.set_cons_zero, List.set_cons_succ, i64_w, i32_w]; rfl
             refine pu_ ?_ 2 (some 78) (bN 11 7) rfl rfl HT_ (by kernel_rfl) (fun _ _ _ h => h) (by rfl) ?_ ?_ ?_ ?_; rotate_left; (intro w'; go_simp; with_reducible rfl); rotate_left; (simp only [Act.put, sA_, sB_, sC_, i64_w, i32_w]; rfl)
             refine pn_ ?_ 3 (some 79) (bN 11 15) rfl rfl HT_ (by kernel_rfl) (fun _ _ _ h => h) (by rfl) ?_ ?_; rotate_left; (simp only [Act.put, sA_, sB_, sC_, i64_w, i32_w]; rfl)
             refine pn_ ?_ 4 (some 80) (bN 11 31) rfl rfl HT_ (by kernel_rfl) (fun _ _ _ h => h) (by rfl) ?_ ?_; rotate_left; (simp only [Act.put, sA_, sB_, sC_, i64_w, i32_w]; rfl)
             refine pn_ ?_ 5 (some 81) (bN 11 63) rfl rfl HT_ (by kernel_rfl) (fun _ _ _ h => h) (by rfl) ?_ ?_; rotate_left; (simp only [Act.put, sA_, sB_, sC_, i64_w, i32_w]; rfl)
             refine pn_ ?_ 6 (some 82) (bN 11 127) rfl rfl HT_ (by kernel_rfl) (fun _ _ _ h => h) (by rfl) ?_ ?_; rotate_left; (simp only [Act.put, sA_, sB_, sC_, i64_w, i32_w]; rfl)
             refine pn_ ?_ 7 (some 83) (bN 11 255) rfl rfl HT_ (by kernel_rfl) (fun _ _ _ h => h) (by rfl) ?_ ?_; rotate_left; (simp only [Act.put, sA_, sB_, sC_, i64_w, i32_w]; rfl)
             refine pn_ ?_ 8 (some 84) (bN 11 511) rfl rfl HT_ (by kernel_rfl) (fun _ _ _ h => h) (by rfl) ?_ ?_; rotate_left; (simp only [Act.put, sA_, sB_, sC_, i64_w, i32_w]; rfl)
             refine pu_ ?_ 9 (some 85) (bN 11 1023) rfl rfl HT_ (by kernel_rfl) (fun _ _ _ h => h) (by rfl) ?_ ?_ ?_ ?_; rotate_left; (intro w'; go_simp; with_reducible rfl); rotate_left; (simp only [Act.put, sA_, sB_, sC_, i64_w, i32_w]; rfl)
             refine pu_ ?_ 10 (some 75) (bN 11 2047) rfl rfl HT_ (by kernel_rfl) (fun _ _ _ h => h) (by rfl) ?_ ?_ ?_ ?_; rotate_left; (intro w'; go_simp; with_reducible rfl); rotate_left; (simp only [Act.put, sA_, sB_, sC_, i64_w, i32_w]; rfl)
             refine done_ (done_of HT_.out (by kernel_rfl)) ?_
             try go_wp2
             go_roundg kj4
             case measure => have := HK1.out; have := HJ4.out; omega
             case rel => exact ⟨(wrap64 (x3_1 + 1)), (by first | rfl | (simp; done) | (simp [*]; done)), H', ⟨by have := HK1.out; have := HJ4.out; omega⟩, ⟨by repeat (first | (with_reducible first | exact HB.out | apply lA_ | apply lN_ | apply lD_ | refine lS_ ?_ GE214.out | refine lS_ ?_ GE215.out) | exact HB.out)⟩⟩
          ·
           rw [if_neg c44] at H
           exact absurd H (by simp)
         ·
          rw [if_neg c43] at H
          exact absurd H (by simp)
     ·
      rw [if_neg c4] at H
      exact absurd H (by simp)
    ·
     rw [if_neg c3] at H
     have c3b0 : decide (x3_1 < (l0.length : Int)) = false := decide_eq_false c3; clear c3; obtain rfl := Option.some.inj H; go_wp2
     go_ret
     exact ⟨by first | rfl | (simp [errW_none, errW_some] <;> rfl) | (simp [*, errW_none, errW_some] <;> rfl), by repeat (first | (with_reducible first | exact HB.out | apply lA_ | apply lN_ | apply lD_) | exact HB.out)⟩

end Go.Proofs.Ytjlfaoaoinhebaa.A
