-- PRINTED by print.py (a twelfth state) out of the translation. Not trusted: Lean checks it.
import Derived.Test.YtjhmcepcealelaaA0
import Derived.Test.YtjhmcepcealelaaA4
import Derived.Test.YtjhmcepcealelaaA6
import Derived.Test.YtjhmcepcealelaaA8
import Derived.Test.YtjhmcepcealelaaA9
namespace Go.Proofs.Ytjhmcepcealelaa.A
open Go.RowKit Go.Proofs.YtjhmcepcealelaaW.PrintWords Go.Proofs.YtjhmcepcealelaaW.PrintLast Go.Proofs.YtjhmcepcealelaaW.PrintMore
attribute [local go_sem] max2_int min2_int max_two min_two max_three min_three max_four min_four   -- for this text's walks alone
set_option linter.unusedVariables false
set_option linter.unusedSimpArgs false

/-! ### skiarealaw09_LedgerOrders: function 9 -/
mutual
def skiarealaw09_LedgerOrders.j0 : Nat → List (S28) → Int → Int → Bool → Option (Bool)
  | 0, _, _, _, _ => none
  | k + 1, x0, x1, x2, x27 => if x27 = true then (some true) else (skiarealaw09_LedgerOrders.l0 k x0 x1 x2 ([] : List (S28)) (wrap64 ((x0.length : Int) - 1)))
def skiarealaw09_LedgerOrders.l0 : Nat → List (S28) → Int → Int → List (S28) → Int → Option (Bool)
  | 0, _, _, _, _, _ => none
  | k + 1, x0, x1, x2, x7, x8 => if x8 ≥ 0 then (if 0 ≤ x8 then (if x8 < (x0.length : Int) then (if x7.length < 4398046511104 then (skiarealaw09_LedgerOrders.l0 k x0 x1 x2 (x7 ++ [(⟨(rd_T28 x0 x8).f0, (rd_T28 x0 x8).f1, (rd_T28 x0 x8).f2, (rd_T28 x0 x8).f3⟩ : S28)]) (wrap64 (x8 - 1))) else (none)) else (none)) else (none)) else (if (wrap64 ((x0.length : Int) + 1)) = 0 then (none) else ((ledger_Turnover.f k x0 x2).bind fun bt327 => (if 0 ≤ (Int.tmod (wrap64 (x1)) (wrap64 ((x0.length : Int) + 1))) then (if (Int.tmod (wrap64 (x1)) (wrap64 ((x0.length : Int) + 1))) ≤ (x0.length : Int) then ((ledger_Turnover.f k (x0.take ((Int.tmod (wrap64 (x1)) (wrap64 ((x0.length : Int) + 1))) : Int).toNat) x2).bind fun bt333 => ((ledger_Turnover.f k (x0.drop ((Int.tmod (wrap64 (x1)) (wrap64 ((x0.length : Int) + 1))) : Int).toNat) x2).bind fun bt339 => ((ledger_Turnover.f k x7 x2).bind fun bt341 => (if bt327.1 = (wrap64 (bt333.1 + bt339.1)) then (if bt327.2 = (wrap64 (bt333.2 + bt339.2)) then (if bt327.1 = bt341.1 then (if bt327.2 = bt341.2 then ((ledger_Balance.f k x0 x2).bind fun t343 => (if t343 = (wrap64 (bt327.1 - bt327.2)) then ((ledger_Balance.f k x7 x2).bind fun t344 => (if t344 = (wrap64 (bt327.1 - bt327.2)) then ((ledger_Accounts.f x7).bind fun t345 => ((ledger_Accounts.f x0).bind fun t348 => ((skiarearef09_SameInts.f k t345 t348).bind fun t351 => (if t351 = true then ((ledger_Of.f k x7 x2).bind fun t352 => ((ledger_Of.f k x0 x2).bind fun t355 => (some ((t352.length : Int) == (t355.length : Int))))) else (none))))) else (none))) else (none))) else (none)) else (none)) else (none)) else (none))))) else (none)) else (none))))
end
def skiarealaw09_LedgerOrders.f (k : Nat) (l0 : List (S28)) (a1 : Int) (a2 : Int) : Option (Bool) := (skiarealaw09_alive.f k).bind fun t321 => (if t321 = true then (if (l0.length : Int) > 200 then (skiarealaw09_LedgerOrders.j0 k l0 a1 a2 true) else ((ledger_Right.f l0).bind fun t322 => (skiarealaw09_LedgerOrders.j0 k l0 a1 a2 (t322 != 0)))) else (none))
theorem skiarealaw09_LedgerOrders.mono_l : ∀ k, (∀ y0 y1 y2 y3, LeO (skiarealaw09_LedgerOrders.j0 k y0 y1 y2 y3) (skiarealaw09_LedgerOrders.j0 (k + 1) y0 y1 y2 y3)) ∧ (∀ y0 y1 y2 y3 y4, LeO (skiarealaw09_LedgerOrders.l0 k y0 y1 y2 y3 y4) (skiarealaw09_LedgerOrders.l0 (k + 1) y0 y1 y2 y3 y4))
  | 0 => ⟨fun _ _ _ _ r h => by simp [skiarealaw09_LedgerOrders.j0] at h, fun _ _ _ _ _ r h => by simp [skiarealaw09_LedgerOrders.l0] at h⟩
  | k + 1 => by
    obtain ⟨ih0, ih1⟩ := skiarealaw09_LedgerOrders.mono_l k
    refine ⟨?_, ?_⟩
    · intro y0 y1 y2 y3
      unfold skiarealaw09_LedgerOrders.j0
      repeat' first
      | (with_reducible exact ih0 _ _ _ _)
      | (with_reducible exact ih1 _ _ _ _ _)
      | (with_reducible exact ledger_Balance.mono _ _ _)
      | (with_reducible exact ledger_Of.mono _ _ _)
      | (with_reducible exact ledger_Turnover.mono _ _ _)
      | (with_reducible exact skiarealaw09_alive.mono _)
      | (with_reducible exact skiarearef09_SameInts.mono _ _ _)
      | (with_reducible exact LeO.refl _)
      | (with_reducible exact LeO.none _)
      | (with_reducible refine LeO.ite ?_ ?_)
      | (with_reducible refine LeO.bind ?_ (fun _ => ?_))
      | exact ih0 _ _ _ _
      | exact ih1 _ _ _ _ _
      | exact ledger_Balance.mono _ _ _
      | exact ledger_Of.mono _ _ _
      | exact ledger_Turnover.mono _ _ _
      | exact skiarealaw09_alive.mono _
      | exact skiarearef09_SameInts.mono _ _ _
      | exact LeO.none _
      | refine LeO.ite ?_ ?_
      | refine LeO.bind ?_ (fun _ => ?_)
    · intro y0 y1 y2 y3 y4
      unfold skiarealaw09_LedgerOrders.l0
      repeat' first
      | (with_reducible exact ih0 _ _ _ _)
      | (with_reducible exact ih1 _ _ _ _ _)
      | (with_reducible exact ledger_Balance.mono _ _ _)
      | (with_reducible exact ledger_Of.mono _ _ _)
      | (with_reducible exact ledger_Turnover.mono _ _ _)
      | (with_reducible exact skiarealaw09_alive.mono _)
      | (with_reducible exact skiarearef09_SameInts.mono _ _ _)
      | (with_reducible exact LeO.refl _)
      | (with_reducible exact LeO.none _)
      | (with_reducible refine LeO.ite ?_ ?_)
      | (with_reducible refine LeO.bind ?_ (fun _ => ?_))
      | exact ih0 _ _ _ _
      | exact ih1 _ _ _ _ _
      | exact ledger_Balance.mono _ _ _
      | exact ledger_Of.mono _ _ _
      | exact ledger_Turnover.mono _ _ _
      | exact skiarealaw09_alive.mono _
      | exact skiarearef09_SameInts.mono _ _ _
      | exact LeO.none _
      | refine LeO.ite ?_ ?_
      | refine LeO.bind ?_ (fun _ => ?_)
theorem skiarealaw09_LedgerOrders.mono : ∀ a0 a1 a2 k, LeO (skiarealaw09_LedgerOrders.f k a0 a1 a2) (skiarealaw09_LedgerOrders.f (k + 1) a0 a1 a2) := by
  intro a0 a1 a2 k
  obtain ⟨ih0, ih1⟩ := skiarealaw09_LedgerOrders.mono_l k
  unfold skiarealaw09_LedgerOrders.f
  repeat' first
      | (with_reducible exact ih0 _ _ _ _)
      | (with_reducible exact ih1 _ _ _ _ _)
      | (with_reducible exact ledger_Balance.mono _ _ _)
      | (with_reducible exact ledger_Of.mono _ _ _)
      | (with_reducible exact ledger_Turnover.mono _ _ _)
      | (with_reducible exact skiarealaw09_alive.mono _)
      | (with_reducible exact skiarearef09_SameInts.mono _ _ _)
      | (with_reducible exact LeO.refl _)
      | (with_reducible exact LeO.none _)
      | (with_reducible refine LeO.ite ?_ ?_)
      | (with_reducible refine LeO.bind ?_ (fun _ => ?_))
      | exact ih0 _ _ _ _
      | exact ih1 _ _ _ _ _
      | exact ledger_Balance.mono _ _ _
      | exact ledger_Of.mono _ _ _
      | exact ledger_Turnover.mono _ _ _
      | exact skiarealaw09_alive.mono _
      | exact skiarearef09_SameInts.mono _ _ _
      | exact LeO.none _
      | refine LeO.ite ?_ ?_
      | refine LeO.bind ?_ (fun _ => ?_)
set_option maxHeartbeats 8000000 in
set_option maxRecDepth 100000 in
theorem skiarealaw09_LedgerOrders.calls (k : Nat) (A0 : Option Addr) (c0 : Nat) (l0 : List (S28)) (a1 : Int) (a2 : Int) (r : Bool) (w : World) (hr0 : Kd.C k28 w A0 l0.length l0) (hc0 : l0.length ≤ c0) (h : skiarealaw09_LedgerOrders.f k l0 a1 a2 = some r) :
    Calls Try.prog 9 #[.slice A0 l0.length c0, .int .u8 a1, .int .i64 a2] w fun e w' => e = .returned (.bool r) ∧ Below w.heap.size w w' := by
  have hu28 := Try.underlying28
  have HR0 := Aside0.mk hr0
  have HC0 := Aside0.mk hc0
  clear hr0 hc0
  have HB := Aside0.mk (Below.refl w.heap.size w)
  have H : ((skiarealaw09_alive.f k).bind fun t321 => (if t321 = true then (if (l0.length : Int) > 200 then (skiarealaw09_LedgerOrders.j0 k l0 a1 a2 true) else ((ledger_Right.f l0).bind fun t322 => (skiarealaw09_LedgerOrders.j0 k l0 a1 a2 (t322 != 0)))) else (none))) = some r := h
  clear h
  replace H := Option.bind_eq_some_iff.mp H
  obtain ⟨t321, A40, H⟩ := H
  replace H : (if t321 = true then (if (l0.length : Int) > 200 then (skiarealaw09_LedgerOrders.j0 k l0 a1 a2 true) else ((ledger_Right.f l0).bind fun t322 => (skiarealaw09_LedgerOrders.j0 k l0 a1 a2 (t322 != 0)))) else (none)) = some r := H
  have A4 := Aside0.mk A40
  clear A40
  by_cases c5 : t321 = true
  · subst c5
    have H1 : (if (l0.length : Int) > 200 then (skiarealaw09_LedgerOrders.j0 k l0 a1 a2 true) else ((ledger_Right.f l0).bind fun t322 => (skiarealaw09_LedgerOrders.j0 k l0 a1 a2 (t322 != 0)))) = some r := by rw [if_pos rfl] at H; exact H
    clear H
    have H := H1
    clear H1
    have HC6 := Aside0.mk H
    clear H
    go_enter Try.func9, Try.ntmps9
    go_upto_region 3 with (first | ((with_reducible refine gate_callee (f := 10) rfl ?_); refine goesL_ (some 18) rfl rfl Try.func10 (by kernel_rfl) rfl #[] rfl (by (try simp only [List.map_toArray, List.map_cons, List.map_nil]); first | done | rfl | (simp only [List.length_drop, List.length_take]; rfl)) ?_; (with_reducible refine (skiarealaw09_alive.calls k  true _ A4.out).mono ?_); rintro e w7 ⟨rfl, hb⟩; refine ⟨_, rfl, ?_⟩; have n0_ := Aside0.mk (below_step (by repeat (first | (with_reducible first | exact HB.out | apply below_alloc | apply pw_below_drewN | apply below_drew1) | exact HB.out)) hb); clear HB; have HB := n0_; clear n0_; (try clear hb); (try clear hb2); (try clear hk); (try clear hi)))
    (try simp only [Act.put, List.setIfInBounds_toArray, List.set_cons_zero, List.set_cons_succ])
    go_cut [27] (fun v27 wc => ∃ (kq : Nat) (x27_5 : Bool), v27 = .bool x27_5 ∧ Aside0 (skiarealaw09_LedgerOrders.j0 kq l0 a1 a2 x27_5 = some r) ∧ Aside0 (kq ≤ k) ∧ Aside0 (Below w.heap.size w wc))
    case first =>
      have H := HC6.out
      clear HC6
      by_cases c8 : (l0.length : Int) > 200
      · rw [if_pos c8] at H
        have c8b0 : decide (200 < (l0.length : Int)) = true := decide_eq_true c8
        have c8b1 : decide (200 < l0.length) = true := decide_eq_true (by omega)
        clear c8
        (first | rw [c8b0] | (simp only [i64_w, i32_w]; rw [c8b0]) | skip)
        have H' := Aside0.mk H
        clear H
        go_wp2
        go_meet
        case rel => exact ⟨_, (true), (by first | rfl | (simp; done) | (simp [*]; done)), H', ⟨by first | omega | exact Nat.le_refl _⟩, ⟨by repeat (first | (with_reducible first | exact HB.out | apply below_alloc | apply pw_below_drewN | apply below_drew1) | exact HB.out)⟩⟩
      · rw [if_neg c8] at H
        have c8b0 : decide (200 < (l0.length : Int)) = false := decide_eq_false c8
        have c8b1 : decide (200 < l0.length) = false := decide_eq_false (by omega)
        clear c8
        (first | rw [c8b0] | (simp only [i64_w, i32_w]; rw [c8b0]) | skip)
        replace H := Option.bind_eq_some_iff.mp H
        obtain ⟨t322, A90, H⟩ := H
        replace H : (skiarealaw09_LedgerOrders.j0 k l0 a1 a2 (t322 != 0)) = some r := H
        have A9 := Aside0.mk A90
        clear A90
        have H' := Aside0.mk H
        clear H
        go_wp2_with (first | (go_at_call 11; (with_reducible refine (ledger_Right.calls _ _ l0 t322 _ ?side1 ?side2 A9.out).mono ?_); (case side1 => repeat (first | exact (Kd.C_below HR0.out HB.out) | (with_reducible refine Kd.C_alloc ?_ _) | (with_reducible refine Kd.C_drewN ?_ _) | (with_reducible refine Kd.C_drew ?_))); (case side2 => exact HC0.out); rintro e w10 ⟨rfl, hb⟩; (try clear A9); have n0_ := Aside0.mk (below_step (by repeat (first | (with_reducible first | exact HB.out | apply below_alloc | apply pw_below_drewN | apply below_drew1) | exact HB.out)) hb); clear HB; have HB := n0_; clear n0_; (try clear hb); (try clear hb2); (try clear hk); (try clear hi)))
        go_meet
        case rel => exact ⟨_, ((t322 != 0)), (by first | rfl | (simp; done) | (simp [*]; done)), H', ⟨by first | omega | exact Nat.le_refl _⟩, ⟨by repeat (first | (with_reducible first | exact HB.out | apply below_alloc | apply pw_below_drewN | apply below_drew1) | exact HB.out)⟩⟩
    case rest =>
      clear HC6
      try clear c1
      try clear p2
      try clear c5
      try clear c8
      try clear c8b0
      try clear c8b1
      try clear c9
      try clear c10
      obtain ⟨kq, x27_5, rfl, HA, HJ5, HB⟩ := hcut
      cases kq with
      | zero => exact absurd HA.out (by simp [skiarealaw09_LedgerOrders.j0])
      | succ kj5 =>
        have H := HA.out
        clear HA
        simp only [skiarealaw09_LedgerOrders.j0] at H
        by_cases c11 : x27_5 = true
        · subst c11
          have H1 : (some true) = some r := by rw [if_pos rfl] at H; exact H
          clear H
          have H := H1
          clear H1
          obtain rfl := Option.some.inj H
          go_wp2
          go_ret
          exact ⟨by first | rfl | (simp [errW_none, errW_some] <;> rfl) | (simp [*, errW_none, errW_some] <;> rfl), by repeat (first | (with_reducible first | exact HB.out | apply below_alloc | apply pw_below_drewN | apply below_drew1) | exact HB.out)⟩
        · replace c11 := Bool.eq_false_iff.mpr c11
          subst c11
          have H1 : (skiarealaw09_LedgerOrders.l0 kj5 l0 a1 a2 ([] : List (S28)) (wrap64 ((l0.length : Int) - 1))) = some r := by rw [if_neg (show ¬ (false = true) by decide)] at H; exact H
          clear H
          have H := H1
          clear H1
          have H' := Aside0.mk H
          clear H
          go_wp2
          go_loopg [7, 8] kj5 (fun kq v7 v8 w' => ∃ (x7_2 : List (S28)) (x8_2 : Int), v8 = .int .i64 x8_2 ∧ Aside0 (skiarealaw09_LedgerOrders.l0 kq l0 a1 a2 x7_2 x8_2 = some r) ∧ Aside0 (kq ≤ kj5) ∧ Aside0 (Kd.R k28 28 w' w.heap.size (fun _ => True) v7 x7_2) ∧ Aside0 (Below w.heap.size w w'))
          case atStart => exact ⟨(([] : List (S28))), (wrap64 ((l0.length : Int) - 1)), (by first | rfl | (simp; done) | (simp [*]; done)), H', ⟨Nat.le_refl _⟩, ⟨by first | exact Kd.R_nil _ _ _ _ _ | exact Kd.N_nil _ _ _ _ _ | exact Kd.V_nil _ _ _ _ _ | exact Kd.Q_nil _ _ _ _ _ | exact Kd.S_nil _ _ _ _ _⟩, ⟨by repeat (first | (with_reducible first | exact HB.out | apply below_alloc | apply pw_below_drewN | apply below_drew1) | exact HB.out)⟩⟩
          case round =>
            clear H'
            try clear c1
            try clear p2
            try clear c5
            try clear p6
            try clear c8
            try clear c8b0
            try clear c8b1
            try clear c9
            try clear c10
            try clear c11
            try clear p2
            obtain ⟨x7_2, x8_2, rfl, HA, HK2, HO_7, HB⟩ := hrel
            cases gk with
            | zero => exact absurd HA.out (by simp [skiarealaw09_LedgerOrders.l0])
            | succ k2 =>
              have H := HA.out
              clear HA
              simp only [skiarealaw09_LedgerOrders.l0] at H
              by_cases c12 : x8_2 ≥ 0
              · rw [if_pos c12] at H
                have c12b0 : decide (0 ≤ x8_2) = true := decide_eq_true c12
                clear c12
                by_cases c13 : 0 ≤ x8_2
                · rw [if_pos c13] at H
                  have c13b0 : decide (0 ≤ x8_2) = true := decide_eq_true c13
                  clear c13
                  by_cases c14 : x8_2 < (l0.length : Int)
                  · rw [if_pos c14] at H
                    have c14b0 : decide (x8_2 < (l0.length : Int)) = true := decide_eq_true c14
                    clear c14
                    by_cases c15 : x7_2.length < 4398046511104
                    · rw [if_pos c15] at H
                      have LMc15 := Aside0.mk c15
                      clear c15
                      obtain ⟨y324, hy324⟩ : ∃ y_ : List (S28), y_ = (x7_2 ++ [(⟨(rd_T28 l0 x8_2).f0, (rd_T28 l0 x8_2).f1, (rd_T28 l0 x8_2).f2, (rd_T28 l0 x8_2).f3⟩ : S28)]) := ⟨_, rfl⟩
                      replace H : (skiarealaw09_LedgerOrders.l0 k2 l0 a1 a2 y324 (wrap64 (x8_2 - 1))) = some r := by first | (rw [hy324]; with_reducible exact H) | (have H2_ := (Option.bind_some _ _).symm.trans H; rw [hy324]; with_reducible exact H2_) | (have H2_ := (Option.bind_some _ _).symm.trans H; with_reducible exact H2_) | with_reducible exact H | (rw [hy324]; exact H) | exact H
                      have Ny324 := Aside0.mk hy324
                      clear hy324
                      have H' := Aside0.mk H
                      clear H
                      have p323 : 0 ≤ (x8_2 : Int) := of_decide_eq_true (by first | (with_reducible assumption) | assumption)
                      have q323 : x8_2 < (l0.length : Int) := of_decide_eq_true (by first | (with_reducible assumption) | assumption)
                      obtain ⟨ad323, e323, hx323_0, hx323_1, hx323_2, hx323_3⟩ := at_T28 HR0.out x8_2 p323 q323
                      cases e323
                      replace hx323_0 := (HB.out.cell (World.block_lt_of_cell? w _ hx323_0)).trans hx323_0
                      replace hx323_1 := (HB.out.cell (World.block_lt_of_cell? w _ hx323_1)).trans hx323_1
                      replace hx323_2 := (HB.out.cell (World.block_lt_of_cell? w _ hx323_2)).trans hx323_2
                      replace hx323_3 := (HB.out.cell (World.block_lt_of_cell? w _ hx323_3)).trans hx323_3
                      replace p323 := eq_true p323
                      replace q323 := eq_true q323
                      go_wp2_with (first | ((with_reducible refine gate_builtin (b := .append) (xs := #[.tmp 35, .tmp 40]) rfl ?_); (try (refine gate_guard (by rfl) ?_; dsimp only)); at_builtin; refine Kd.R_append k28 (w0 := w) w.heap.size rfl (.tmp 35) (.tmp 40) 22 28 (.agg #[(.int .i64 0), (.int .i64 0), (.int .i64 0), (.int .i64 0)]) 32 rfl Try.underlying22 info28 rfl (by decide) (by omega) u7 x7_2 (⟨(rd_T28 l0 x8_2).f0, (rd_T28 l0 x8_2).f1, (rd_T28 l0 x8_2).f2, (rd_T28 l0 x8_2).f3⟩ : S28) [.int .i64 ((rd_T28 l0 x8_2).f0), .int .i64 ((rd_T28 l0 x8_2).f1), .int .i64 ((rd_T28 l0 x8_2).f2), .int .i64 ((rd_T28 l0 x8_2).f3)] (fun _ => True) (fun _ => False) rfl rfl ?aP (fun _ hk => hk.elim) ?aF ?aO ?aB ?aS ?aL ?_; (case aP => exact k28_mkM _ _ _ (⟨(rd_T28 l0 x8_2).f0, (rd_T28 l0 x8_2).f1, (rd_T28 l0 x8_2).f2, (rd_T28 l0 x8_2).f3⟩ : S28)); (case aB => exact (by repeat (first | (with_reducible first | exact HB.out | apply below_alloc | apply pw_below_drewN | apply below_drew1) | exact HB.out))); (case aF => exact (fun _ _ => trivial)); (case aO => exact (by (with_reducible repeat (first | apply Kd.R_alloc | apply Kd.R_drewN | apply Kd.R_drew)); exact HO_7.out)); (case aS => exact (below_size (by repeat (first | (with_reducible first | exact HB.out | apply below_alloc | apply pw_below_drewN | apply below_drew1) | exact HB.out)))); (case aL => have := LMc15.out; omega); intro v325 w16 ho hb hg hat; rw [← Ny324.out] at ho; have n0_ := Aside0.mk (hb); have n1_ := Aside0.mk (ho); clear HB; clear HO_7; have HB := n0_; have HO326 := n1_; clear n0_ n1_; clear ho hb hg hat))
                      go_roundg k2
                      case measure => have := HJ5.out; have := HK2.out; omega
                      case rel => exact ⟨(y324), (wrap64 (x8_2 - 1)), (by first | rfl | (simp; done) | (simp [*]; done)), H', ⟨by have := HJ5.out; have := HK2.out; omega⟩, ⟨by (with_reducible repeat (first | apply Kd.R_alloc | apply Kd.R_drewN | apply Kd.R_drew)); exact HO326.out⟩, ⟨by repeat (first | (with_reducible first | exact HB.out | apply below_alloc | apply pw_below_drewN | apply below_drew1) | exact HB.out)⟩⟩
                    · rw [if_neg c15] at H
                      exact absurd H (by simp)
                  · rw [if_neg c14] at H
                    exact absurd H (by simp)
                · rw [if_neg c13] at H
                  exact absurd H (by simp)
              · rw [if_neg c12] at H
                have c12b0 : decide (0 ≤ x8_2) = false := decide_eq_false c12
                clear c12
                by_cases c17 : (wrap64 ((l0.length : Int) + 1)) = 0
                · rw [if_pos c17] at H
                  exact absurd H (by simp)
                · rw [if_neg c17] at H
                  have c17b0 : ((wrap64 ((l0.length : Int) + 1)) == 0) = false := beq_eq_false_iff_ne.mpr c17
                  have c17b1 : ((wrap64 ((l0.length : Int) + 1)) != 0) = true := bne_iff_ne.mpr c17
                  replace H := Option.bind_eq_some_iff.mp H
                  obtain ⟨⟨t327, t328⟩, A180, H⟩ := H
                  replace H : (if 0 ≤ (Int.tmod (wrap64 (a1)) (wrap64 ((l0.length : Int) + 1))) then (if (Int.tmod (wrap64 (a1)) (wrap64 ((l0.length : Int) + 1))) ≤ (l0.length : Int) then ((ledger_Turnover.f k2 (l0.take ((Int.tmod (wrap64 (a1)) (wrap64 ((l0.length : Int) + 1))) : Int).toNat) a2).bind fun bt333 => ((ledger_Turnover.f k2 (l0.drop ((Int.tmod (wrap64 (a1)) (wrap64 ((l0.length : Int) + 1))) : Int).toNat) a2).bind fun bt339 => ((ledger_Turnover.f k2 x7_2 a2).bind fun bt341 => (if t327 = (wrap64 (bt333.1 + bt339.1)) then (if t328 = (wrap64 (bt333.2 + bt339.2)) then (if t327 = bt341.1 then (if t328 = bt341.2 then ((ledger_Balance.f k2 l0 a2).bind fun t343 => (if t343 = (wrap64 (t327 - t328)) then ((ledger_Balance.f k2 x7_2 a2).bind fun t344 => (if t344 = (wrap64 (t327 - t328)) then ((ledger_Accounts.f x7_2).bind fun t345 => ((ledger_Accounts.f l0).bind fun t348 => ((skiarearef09_SameInts.f k2 t345 t348).bind fun t351 => (if t351 = true then ((ledger_Of.f k2 x7_2 a2).bind fun t352 => ((ledger_Of.f k2 l0 a2).bind fun t355 => (some ((t352.length : Int) == (t355.length : Int))))) else (none))))) else (none))) else (none))) else (none)) else (none)) else (none)) else (none))))) else (none)) else (none)) = some r := H
                  have A18 := Aside0.mk A180
                  clear A180
                  obtain ⟨ji19, hji19⟩ : ∃ j_ : Int, (Int.tmod (wrap64 (a1)) (wrap64 ((l0.length : Int) + 1))) = j_ := ⟨_, rfl⟩
                  replace H : (if 0 ≤ (ji19) then (if (ji19) ≤ (l0.length : Int) then ((ledger_Turnover.f k2 (l0.take ((ji19) : Int).toNat) a2).bind fun bt333 => ((ledger_Turnover.f k2 (l0.drop ((ji19) : Int).toNat) a2).bind fun bt339 => ((ledger_Turnover.f k2 x7_2 a2).bind fun bt341 => (if t327 = (wrap64 (bt333.1 + bt339.1)) then (if t328 = (wrap64 (bt333.2 + bt339.2)) then (if t327 = bt341.1 then (if t328 = bt341.2 then ((ledger_Balance.f k2 l0 a2).bind fun t343 => (if t343 = (wrap64 (t327 - t328)) then ((ledger_Balance.f k2 x7_2 a2).bind fun t344 => (if t344 = (wrap64 (t327 - t328)) then ((ledger_Accounts.f x7_2).bind fun t345 => ((ledger_Accounts.f l0).bind fun t348 => ((skiarearef09_SameInts.f k2 t345 t348).bind fun t351 => (if t351 = true then ((ledger_Of.f k2 x7_2 a2).bind fun t352 => ((ledger_Of.f k2 l0 a2).bind fun t355 => (some ((t352.length : Int) == (t355.length : Int))))) else (none))))) else (none))) else (none))) else (none)) else (none)) else (none)) else (none))))) else (none)) else (none)) = some r := by first | (rw [hji19] at H; exact H) | (simp only [hji19] at H ⊢; exact H)
                  (try rw [hji19] at A18)
                  by_cases c20 : 0 ≤ (ji19)
                  · rw [if_pos c20] at H
                    have c20b0 := eq_true c20
                    have c20b1 : decide (0 ≤ (ji19)) = true := decide_eq_true c20
                    clear c20
                    by_cases c21 : (ji19) ≤ (l0.length : Int)
                    · rw [if_pos c21] at H
                      have c21b0 := eq_true c21
                      have c21b1 : decide ((ji19) ≤ (l0.length : Int)) = true := decide_eq_true c21
                      clear c21
                      obtain ⟨y329, hy329⟩ : ∃ y_ : List (S28), y_ = (l0.take ((ji19) : Int).toNat) := ⟨_, rfl⟩
                      replace H : ((ledger_Turnover.f k2 y329 a2).bind fun bt333 => ((ledger_Turnover.f k2 (l0.drop ((ji19) : Int).toNat) a2).bind fun bt339 => ((ledger_Turnover.f k2 x7_2 a2).bind fun bt341 => (if t327 = (wrap64 (bt333.1 + bt339.1)) then (if t328 = (wrap64 (bt333.2 + bt339.2)) then (if t327 = bt341.1 then (if t328 = bt341.2 then ((ledger_Balance.f k2 l0 a2).bind fun t343 => (if t343 = (wrap64 (t327 - t328)) then ((ledger_Balance.f k2 x7_2 a2).bind fun t344 => (if t344 = (wrap64 (t327 - t328)) then ((ledger_Accounts.f x7_2).bind fun t345 => ((ledger_Accounts.f l0).bind fun t348 => ((skiarearef09_SameInts.f k2 t345 t348).bind fun t351 => (if t351 = true then ((ledger_Of.f k2 x7_2 a2).bind fun t352 => ((ledger_Of.f k2 l0 a2).bind fun t355 => (some ((t352.length : Int) == (t355.length : Int))))) else (none))))) else (none))) else (none))) else (none)) else (none)) else (none)) else (none))))) = some r := by first | (rw [hy329]; with_reducible exact H) | (have H2_ := (Option.bind_some _ _).symm.trans H; rw [hy329]; with_reducible exact H2_) | (have H2_ := (Option.bind_some _ _).symm.trans H; with_reducible exact H2_) | with_reducible exact H | (rw [hy329]; exact H) | exact H
                      have Ny329 := Aside0.mk hy329
                      clear hy329
                      replace H := Option.bind_eq_some_iff.mp H
                      obtain ⟨⟨t333, t334⟩, A220, H⟩ := H
                      replace H : ((ledger_Turnover.f k2 (l0.drop ((ji19) : Int).toNat) a2).bind fun bt339 => ((ledger_Turnover.f k2 x7_2 a2).bind fun bt341 => (if t327 = (wrap64 (t333 + bt339.1)) then (if t328 = (wrap64 (t334 + bt339.2)) then (if t327 = bt341.1 then (if t328 = bt341.2 then ((ledger_Balance.f k2 l0 a2).bind fun t343 => (if t343 = (wrap64 (t327 - t328)) then ((ledger_Balance.f k2 x7_2 a2).bind fun t344 => (if t344 = (wrap64 (t327 - t328)) then ((ledger_Accounts.f x7_2).bind fun t345 => ((ledger_Accounts.f l0).bind fun t348 => ((skiarearef09_SameInts.f k2 t345 t348).bind fun t351 => (if t351 = true then ((ledger_Of.f k2 x7_2 a2).bind fun t352 => ((ledger_Of.f k2 l0 a2).bind fun t355 => (some ((t352.length : Int) == (t355.length : Int))))) else (none))))) else (none))) else (none))) else (none)) else (none)) else (none)) else (none)))) = some r := H
                      have A22 := Aside0.mk A220
                      clear A220
                      have c23b0 := eq_true (of_decide_eq_true (by first | (with_reducible assumption) | assumption) : 0 ≤ (ji19))
                      have c24b0 := eq_true (of_decide_eq_true (by first | (with_reducible assumption) | assumption) : (ji19) ≤ (l0.length : Int))
                      obtain ⟨y335, hy335⟩ : ∃ y_ : List (S28), y_ = (l0.drop ((ji19) : Int).toNat) := ⟨_, rfl⟩
                      replace H : ((ledger_Turnover.f k2 y335 a2).bind fun bt339 => ((ledger_Turnover.f k2 x7_2 a2).bind fun bt341 => (if t327 = (wrap64 (t333 + bt339.1)) then (if t328 = (wrap64 (t334 + bt339.2)) then (if t327 = bt341.1 then (if t328 = bt341.2 then ((ledger_Balance.f k2 l0 a2).bind fun t343 => (if t343 = (wrap64 (t327 - t328)) then ((ledger_Balance.f k2 x7_2 a2).bind fun t344 => (if t344 = (wrap64 (t327 - t328)) then ((ledger_Accounts.f x7_2).bind fun t345 => ((ledger_Accounts.f l0).bind fun t348 => ((skiarearef09_SameInts.f k2 t345 t348).bind fun t351 => (if t351 = true then ((ledger_Of.f k2 x7_2 a2).bind fun t352 => ((ledger_Of.f k2 l0 a2).bind fun t355 => (some ((t352.length : Int) == (t355.length : Int))))) else (none))))) else (none))) else (none))) else (none)) else (none)) else (none)) else (none)))) = some r := by first | (rw [hy335]; with_reducible exact H) | (have H2_ := (Option.bind_some _ _).symm.trans H; rw [hy335]; with_reducible exact H2_) | (have H2_ := (Option.bind_some _ _).symm.trans H; with_reducible exact H2_) | with_reducible exact H | (rw [hy335]; exact H) | exact H
                      have Ny335 := Aside0.mk hy335
                      clear hy335
                      replace H := Option.bind_eq_some_iff.mp H
                      obtain ⟨⟨t339, t340⟩, A250, H⟩ := H
                      replace H : ((ledger_Turnover.f k2 x7_2 a2).bind fun bt341 => (if t327 = (wrap64 (t333 + t339)) then (if t328 = (wrap64 (t334 + t340)) then (if t327 = bt341.1 then (if t328 = bt341.2 then ((ledger_Balance.f k2 l0 a2).bind fun t343 => (if t343 = (wrap64 (t327 - t328)) then ((ledger_Balance.f k2 x7_2 a2).bind fun t344 => (if t344 = (wrap64 (t327 - t328)) then ((ledger_Accounts.f x7_2).bind fun t345 => ((ledger_Accounts.f l0).bind fun t348 => ((skiarearef09_SameInts.f k2 t345 t348).bind fun t351 => (if t351 = true then ((ledger_Of.f k2 x7_2 a2).bind fun t352 => ((ledger_Of.f k2 l0 a2).bind fun t355 => (some ((t352.length : Int) == (t355.length : Int))))) else (none))))) else (none))) else (none))) else (none)) else (none)) else (none)) else (none))) = some r := H
                      have A25 := Aside0.mk A250
                      clear A250
                      replace H := Option.bind_eq_some_iff.mp H
                      obtain ⟨⟨t341, t342⟩, A260, H⟩ := H
                      replace H : (if t327 = (wrap64 (t333 + t339)) then (if t328 = (wrap64 (t334 + t340)) then (if t327 = t341 then (if t328 = t342 then ((ledger_Balance.f k2 l0 a2).bind fun t343 => (if t343 = (wrap64 (t327 - t328)) then ((ledger_Balance.f k2 x7_2 a2).bind fun t344 => (if t344 = (wrap64 (t327 - t328)) then ((ledger_Accounts.f x7_2).bind fun t345 => ((ledger_Accounts.f l0).bind fun t348 => ((skiarearef09_SameInts.f k2 t345 t348).bind fun t351 => (if t351 = true then ((ledger_Of.f k2 x7_2 a2).bind fun t352 => ((ledger_Of.f k2 l0 a2).bind fun t355 => (some ((t352.length : Int) == (t355.length : Int))))) else (none))))) else (none))) else (none))) else (none)) else (none)) else (none)) else (none)) = some r := H
                      have A26 := Aside0.mk A260
                      clear A260
                      by_cases c27 : t327 = (wrap64 (t333 + t339))
                      · rw [if_pos c27] at H
                        have c27b0 : (t327 == (wrap64 (t333 + t339))) = true := beq_iff_eq.mpr c27
                        have c27b1 : (t327 != (wrap64 (t333 + t339))) = false := bne_eq_false_iff_eq.mpr c27
                        clear c27
                        by_cases c28 : t328 = (wrap64 (t334 + t340))
                        · rw [if_pos c28] at H
                          have c28b0 : (t328 == (wrap64 (t334 + t340))) = true := beq_iff_eq.mpr c28
                          have c28b1 : (t328 != (wrap64 (t334 + t340))) = false := bne_eq_false_iff_eq.mpr c28
                          clear c28
                          by_cases c29 : t327 = t341
                          · rw [if_pos c29] at H
                            have c29b0 : (t327 == t341) = true := beq_iff_eq.mpr c29
                            have c29b1 : (t327 != t341) = false := bne_eq_false_iff_eq.mpr c29
                            clear c29
                            by_cases c30 : t328 = t342
                            · rw [if_pos c30] at H
                              have c30b0 : (t328 == t342) = true := beq_iff_eq.mpr c30
                              have c30b1 : (t328 != t342) = false := bne_eq_false_iff_eq.mpr c30
                              clear c30
                              replace H := Option.bind_eq_some_iff.mp H
                              obtain ⟨t343, A310, H⟩ := H
                              replace H : (if t343 = (wrap64 (t327 - t328)) then ((ledger_Balance.f k2 x7_2 a2).bind fun t344 => (if t344 = (wrap64 (t327 - t328)) then ((ledger_Accounts.f x7_2).bind fun t345 => ((ledger_Accounts.f l0).bind fun t348 => ((skiarearef09_SameInts.f k2 t345 t348).bind fun t351 => (if t351 = true then ((ledger_Of.f k2 x7_2 a2).bind fun t352 => ((ledger_Of.f k2 l0 a2).bind fun t355 => (some ((t352.length : Int) == (t355.length : Int))))) else (none))))) else (none))) else (none)) = some r := H
                              have A31 := Aside0.mk A310
                              clear A310
                              by_cases c32 : t343 = (wrap64 (t327 - t328))
                              · rw [if_pos c32] at H
                                have c32b0 : (t343 == (wrap64 (t327 - t328))) = true := beq_iff_eq.mpr c32
                                have c32b1 : (t343 != (wrap64 (t327 - t328))) = false := bne_eq_false_iff_eq.mpr c32
                                clear c32
                                replace H := Option.bind_eq_some_iff.mp H
                                obtain ⟨t344, A330, H⟩ := H
                                replace H : (if t344 = (wrap64 (t327 - t328)) then ((ledger_Accounts.f x7_2).bind fun t345 => ((ledger_Accounts.f l0).bind fun t348 => ((skiarearef09_SameInts.f k2 t345 t348).bind fun t351 => (if t351 = true then ((ledger_Of.f k2 x7_2 a2).bind fun t352 => ((ledger_Of.f k2 l0 a2).bind fun t355 => (some ((t352.length : Int) == (t355.length : Int))))) else (none))))) else (none)) = some r := H
                                have A33 := Aside0.mk A330
                                clear A330
                                by_cases c34 : t344 = (wrap64 (t327 - t328))
                                · rw [if_pos c34] at H
                                  have c34b0 : (t344 == (wrap64 (t327 - t328))) = true := beq_iff_eq.mpr c34
                                  have c34b1 : (t344 != (wrap64 (t327 - t328))) = false := bne_eq_false_iff_eq.mpr c34
                                  clear c34
                                  replace H := Option.bind_eq_some_iff.mp H
                                  obtain ⟨t345, A350, H⟩ := H
                                  replace H : ((ledger_Accounts.f l0).bind fun t348 => ((skiarearef09_SameInts.f k2 t345 t348).bind fun t351 => (if t351 = true then ((ledger_Of.f k2 x7_2 a2).bind fun t352 => ((ledger_Of.f k2 l0 a2).bind fun t355 => (some ((t352.length : Int) == (t355.length : Int))))) else (none)))) = some r := H
                                  have A35 := Aside0.mk A350
                                  clear A350
                                  replace H := Option.bind_eq_some_iff.mp H
                                  obtain ⟨t348, A360, H⟩ := H
                                  replace H : ((skiarearef09_SameInts.f k2 t345 t348).bind fun t351 => (if t351 = true then ((ledger_Of.f k2 x7_2 a2).bind fun t352 => ((ledger_Of.f k2 l0 a2).bind fun t355 => (some ((t352.length : Int) == (t355.length : Int))))) else (none))) = some r := H
                                  have A36 := Aside0.mk A360
                                  clear A360
                                  replace H := Option.bind_eq_some_iff.mp H
                                  obtain ⟨t351, A370, H⟩ := H
                                  replace H : (if t351 = true then ((ledger_Of.f k2 x7_2 a2).bind fun t352 => ((ledger_Of.f k2 l0 a2).bind fun t355 => (some ((t352.length : Int) == (t355.length : Int))))) else (none)) = some r := H
                                  have A37 := Aside0.mk A370
                                  clear A370
                                  by_cases c38 : t351 = true
                                  · subst c38
                                    have H1 : ((ledger_Of.f k2 x7_2 a2).bind fun t352 => ((ledger_Of.f k2 l0 a2).bind fun t355 => (some ((t352.length : Int) == (t355.length : Int))))) = some r := by rw [if_pos rfl] at H; exact H
                                    clear H
                                    have H := H1
                                    clear H1
                                    replace H := Option.bind_eq_some_iff.mp H
                                    obtain ⟨t352, A390, H⟩ := H
                                    replace H : ((ledger_Of.f k2 l0 a2).bind fun t355 => (some ((t352.length : Int) == (t355.length : Int)))) = some r := H
                                    have A39 := Aside0.mk A390
                                    clear A390
                                    replace H := Option.bind_eq_some_iff.mp H
                                    obtain ⟨t355, A400, H⟩ := H
                                    replace H : (some ((t352.length : Int) == (t355.length : Int))) = some r := H
                                    have A40 := Aside0.mk A400
                                    clear A400
                                    obtain rfl := Option.some.inj H
                                    go_wp2_with (first | ((with_reducible refine gate_callee (f := 16) rfl ?_); refine goesL_ (some 51) rfl rfl Try.func16 (by kernel_rfl) rfl #[.slice A0 l0.length c0, .int .i64 a2] rfl (by (try simp only [List.map_toArray, List.map_cons, List.map_nil]); first | done | rfl | (simp only [List.length_drop, List.length_take]; rfl)) ?_; (with_reducible refine (ledger_Turnover.calls k2 _ _ l0 a2 t327 t328 _ ?side1 ?side2 A18.out).mono ?_); (case side1 => repeat (first | exact (Kd.C_below HR0.out HB.out) | (with_reducible refine Kd.C_alloc ?_ _) | (with_reducible refine Kd.C_drewN ?_ _) | (with_reducible refine Kd.C_drew ?_))); (case side2 => exact HC0.out); rintro e w41 ⟨rfl, hb⟩; refine ⟨_, rfl, ?_⟩; have n0_ := Aside0.mk (Kd.R_below (by (with_reducible repeat (first | apply Kd.R_alloc | apply Kd.R_drewN | apply Kd.R_drew)); exact HO_7.out) hb); have n1_ := Aside0.mk (below_step (by repeat (first | (with_reducible first | exact HB.out | apply below_alloc | apply pw_below_drewN | apply below_drew1) | exact HB.out)) hb); clear HO_7; clear HB; have HO_7 := n0_; have HB := n1_; clear n0_ n1_; (try clear hb); (try clear hb2); (try clear hk); (try clear hi); have q42 : ((ji19) : Int) ≤ ((l0.length : Int) : Int) := of_decide_eq_true (by first | (with_reducible assumption) | assumption); obtain ⟨i042, hi042, _, hsz42, _⟩ := info_parts info28; have hroom42 : l0.length ≤ c0 := HC0.out; have hC42 : Kd.C k28 _ A0 l0.length l0 := HR0.out; have hcut42 := cut_to (P := Try.prog) 22 28 .i64 Try.underlying22 hi042 A0 l0.length c0 (ji19) (of_decide_eq_true (by first | (with_reducible assumption) | assumption)) q42 hroom42; have hr42 := Kd.C_take (m := ((ji19) : Int).toNat) hC42 (by omega); have hy42 : y329.length = ((ji19) : Int).toNat := (by rw [Ny329.out, List.length_take]; omega); rw [← Ny329.out] at hr42; rw [← hy42] at hcut42; have HR332 := Aside0.mk hr42; have HC332 := Aside0.mk (show y329.length ≤ c0 from by omega); clear hr42 hC42 hroom42 hi042 hsz42; have KY42 := Aside0.mk hy42; clear hy42; replace q42 := eq_true q42) | ((with_reducible refine gate_callee (f := 16) rfl ?_); refine goesL_ (some 59) rfl rfl Try.func16 (by kernel_rfl) rfl #[.slice A0 y329.length c0, .int .i64 a2] rfl (by (try simp only [List.map_toArray, List.map_cons, List.map_nil]); first | done | rfl | (simp only [List.length_drop, List.length_take]; rfl)) ?_; (with_reducible refine (ledger_Turnover.calls k2 _ _ y329 a2 t333 t334 _ ?side1 ?side2 A22.out).mono ?_); (case side1 => repeat (first | exact (Kd.C_below HR332.out HB.out) | (with_reducible refine Kd.C_alloc ?_ _) | (with_reducible refine Kd.C_drewN ?_ _) | (with_reducible refine Kd.C_drew ?_))); (case side2 => exact HC332.out); rintro e w43 ⟨rfl, hb⟩; refine ⟨_, rfl, ?_⟩; have n0_ := Aside0.mk (Kd.R_below (by (with_reducible repeat (first | apply Kd.R_alloc | apply Kd.R_drewN | apply Kd.R_drew)); exact HO_7.out) hb); have n1_ := Aside0.mk (below_step (by repeat (first | (with_reducible first | exact HB.out | apply below_alloc | apply pw_below_drewN | apply below_drew1) | exact HB.out)) hb); clear HO_7; clear HB; have HO_7 := n0_; have HB := n1_; clear n0_ n1_; (try clear hb); (try clear hb2); (try clear hk); (try clear hi); have q44 : ((ji19) : Int) ≤ ((l0.length : Int) : Int) := of_decide_eq_true (by first | (with_reducible assumption) | assumption); obtain ⟨i044, hi044, _, hsz44, _⟩ := info_parts info28; have hroom44 : l0.length ≤ c0 := HC0.out; have hC44 : Kd.C k28 _ A0 l0.length l0 := HR0.out; have q044 : (0 : Int) ≤ ((ji19) : Int) := of_decide_eq_true (by first | (with_reducible assumption) | assumption); have hcut44 := cut_from (P := Try.prog) 22 28 .i64 Try.underlying22 hi044 4 hsz44 A0 l0.length c0 (ji19) q044 q44; have hr44 := Kd.C_drop (m := ((ji19) : Int).toNat) (c := c0) hC44 (by omega) hroom44; obtain ⟨A44, hA44⟩ : ∃ A1, A1 = (if c0 = ((ji19) : Int).toNat then A0 else (A0 : Option Addr).map (·.add (((ji19) : Int).toNat * 4))) := ⟨_, rfl⟩; obtain ⟨c44, hc44⟩ : ∃ c1, c1 = c0 - ((ji19) : Int).toNat := ⟨_, rfl⟩; have hy44 : y335.length = l0.length - ((ji19) : Int).toNat := (by rw [Ny335.out, List.length_drop] <;> omega); rw [show (l0).drop ((ji19) : Int).toNat = y335 from Ny335.out.symm] at hr44; replace hr44 : Kd.C k28 _ A44 y335.length y335 := (by rw [hA44]; exact hr44); rw [← hy44, ← hA44, ← hc44] at hcut44; have HR338 := Aside0.mk hr44; have HC338 := Aside0.mk (show y335.length ≤ c44 from by rw [hy44, hc44]; exact Nat.sub_le_sub_right hroom44 _); clear hr44 hC44 hroom44 hi044 hsz44 hc44; have KY44 := Aside0.mk hy44; have KA44 := Aside0.mk hA44; clear hy44 hA44; replace q44 := eq_true q44) | ((with_reducible refine gate_callee (f := 16) rfl ?_); refine goesL_ (some 67) rfl rfl Try.func16 (by kernel_rfl) rfl #[.slice A44 y335.length c44, .int .i64 a2] rfl (by (try simp only [List.map_toArray, List.map_cons, List.map_nil]); first | done | rfl | (simp only [List.length_drop, List.length_take]; rfl)) ?_; (with_reducible refine (ledger_Turnover.calls k2 _ _ y335 a2 t339 t340 _ ?side1 ?side2 A25.out).mono ?_); (case side1 => repeat (first | exact (Kd.C_below HR338.out HB.out) | (with_reducible refine Kd.C_alloc ?_ _) | (with_reducible refine Kd.C_drewN ?_ _) | (with_reducible refine Kd.C_drew ?_))); (case side2 => exact HC338.out); rintro e w45 ⟨rfl, hb⟩; refine ⟨_, rfl, ?_⟩; have n0_ := Aside0.mk (Kd.R_below (by (with_reducible repeat (first | apply Kd.R_alloc | apply Kd.R_drewN | apply Kd.R_drew)); exact HO_7.out) hb); have n1_ := Aside0.mk (below_step (by repeat (first | (with_reducible first | exact HB.out | apply below_alloc | apply pw_below_drewN | apply below_drew1) | exact HB.out)) hb); clear HO_7; clear HB; have HO_7 := n0_; have HB := n1_; clear n0_ n1_; (try clear hb); (try clear hb2); (try clear hk); (try clear hi); obtain ⟨Ao46, co46, eo46⟩ := Kd.R_slice HO_7.out; subst eo46) | ((with_reducible refine gate_callee (f := 16) rfl ?_); refine goesL_ (some 73) rfl rfl Try.func16 (by kernel_rfl) rfl #[.slice Ao46 x7_2.length co46, .int .i64 a2] rfl (by (try simp only [List.map_toArray, List.map_cons, List.map_nil]); first | done | rfl | (simp only [List.length_drop, List.length_take]; rfl)) ?_; (with_reducible refine (ledger_Turnover.calls k2 _ _ x7_2 a2 t341 t342 _ ?side1 ?side2 A26.out).mono ?_); (case side1 => repeat (first | exact (Kd.R_reads' HO_7.out).2.2 | (with_reducible refine Kd.C_alloc ?_ _) | (with_reducible refine Kd.C_drewN ?_ _) | (with_reducible refine Kd.C_drew ?_))); (case side2 => exact (Kd.R_reads' HO_7.out).2.1); rintro e w47 ⟨rfl, hb⟩; refine ⟨_, rfl, ?_⟩; have n0_ := Aside0.mk (Kd.R_below (by (with_reducible repeat (first | apply Kd.R_alloc | apply Kd.R_drewN | apply Kd.R_drew)); exact HO_7.out) hb); have n1_ := Aside0.mk (below_step (by repeat (first | (with_reducible first | exact HB.out | apply below_alloc | apply pw_below_drewN | apply below_drew1) | exact HB.out)) hb); clear HO_7; clear HB; have HO_7 := n0_; have HB := n1_; clear n0_ n1_; (try clear hb); (try clear hb2); (try clear hk); (try clear hi)) | (go_at_call 18; (with_reducible refine (ledger_Balance.calls k2 _ _ l0 a2 t343 _ ?side1 ?side2 A31.out).mono ?_); (case side1 => repeat (first | exact (Kd.C_below HR0.out HB.out) | (with_reducible refine Kd.C_alloc ?_ _) | (with_reducible refine Kd.C_drewN ?_ _) | (with_reducible refine Kd.C_drew ?_))); (case side2 => exact HC0.out); rintro e w48 ⟨rfl, hb⟩; (try clear A31); have n0_ := Aside0.mk (Kd.R_below (by (with_reducible repeat (first | apply Kd.R_alloc | apply Kd.R_drewN | apply Kd.R_drew)); exact HO_7.out) hb); have n1_ := Aside0.mk (below_step (by repeat (first | (with_reducible first | exact HB.out | apply below_alloc | apply pw_below_drewN | apply below_drew1) | exact HB.out)) hb); clear HO_7; clear HB; have HO_7 := n0_; have HB := n1_; clear n0_ n1_; (try clear hb); (try clear hb2); (try clear hk); (try clear hi)) | (go_at_call 18; (with_reducible refine (ledger_Balance.calls k2 _ _ x7_2 a2 t344 _ ?side1 ?side2 A33.out).mono ?_); (case side1 => repeat (first | exact (Kd.R_reads' HO_7.out).2.2 | (with_reducible refine Kd.C_alloc ?_ _) | (with_reducible refine Kd.C_drewN ?_ _) | (with_reducible refine Kd.C_drew ?_))); (case side2 => exact (Kd.R_reads' HO_7.out).2.1); rintro e w49 ⟨rfl, hb⟩; (try clear A33); have n0_ := Aside0.mk (Kd.R_below (by (with_reducible repeat (first | apply Kd.R_alloc | apply Kd.R_drewN | apply Kd.R_drew)); exact HO_7.out) hb); have n1_ := Aside0.mk (below_step (by repeat (first | (with_reducible first | exact HB.out | apply below_alloc | apply pw_below_drewN | apply below_drew1) | exact HB.out)) hb); clear HO_7; clear HB; have HO_7 := n0_; have HB := n1_; clear n0_ n1_; (try clear hb); (try clear hb2); (try clear hk); (try clear hi)) | (go_at_call 21; (with_reducible refine (ledger_Accounts.calls _ _ x7_2 t345 _ ?side1 ?side2 A35.out).mono ?_); (case side1 => repeat (first | exact (Kd.R_reads' HO_7.out).2.2 | (with_reducible refine Kd.C_alloc ?_ _) | (with_reducible refine Kd.C_drewN ?_ _) | (with_reducible refine Kd.C_drew ?_))); (case side2 => exact (Kd.R_reads' HO_7.out).2.1); rintro e w50 ⟨v346, rfl, ho0, hb⟩; (try clear A35); have n0_ := Aside0.mk (Kd.R_below (by (with_reducible repeat (first | apply Kd.R_alloc | apply Kd.R_drewN | apply Kd.R_drew)); exact HO_7.out) hb); have n1_ := Aside0.mk (Kd.R_lower ho0 (below_size (by repeat (first | (with_reducible first | exact HB.out | apply below_alloc | apply pw_below_drewN | apply below_drew1) | exact HB.out)))); have n2_ := Aside0.mk (below_step (by repeat (first | (with_reducible first | exact HB.out | apply below_alloc | apply pw_below_drewN | apply below_drew1) | exact HB.out)) hb); clear HO_7; clear HB; have HO_7 := n0_; have HO347 := n1_; have HB := n2_; clear n0_ n1_ n2_; (try clear hb); (try clear hb2); (try clear hk); (try clear hi); (try clear ho0)) | (go_at_call 21; (with_reducible refine (ledger_Accounts.calls _ _ l0 t348 _ ?side1 ?side2 A36.out).mono ?_); (case side1 => repeat (first | exact (Kd.C_below HR0.out HB.out) | (with_reducible refine Kd.C_alloc ?_ _) | (with_reducible refine Kd.C_drewN ?_ _) | (with_reducible refine Kd.C_drew ?_))); (case side2 => exact HC0.out); rintro e w51 ⟨v349, rfl, ho0, hb⟩; (try clear A36); have n0_ := Aside0.mk (Kd.R_below (by (with_reducible repeat (first | apply Kd.R_alloc | apply Kd.R_drewN | apply Kd.R_drew)); exact HO_7.out) hb); have n1_ := Aside0.mk (Kd.R_elder' (by (with_reducible repeat (first | apply Kd.R_alloc | apply Kd.R_drewN | apply Kd.R_drew)); exact HO347.out) (Kd.R_base ho0) hb); have n2_ := Aside0.mk (Kd.R_lower (Kd.R_new' ho0 (Kd.R_lt (by (with_reducible repeat (first | apply Kd.R_alloc | apply Kd.R_drewN | apply Kd.R_drew)); exact HO347.out))) (below_size (by repeat (first | (with_reducible first | exact HB.out | apply below_alloc | apply pw_below_drewN | apply below_drew1) | exact HB.out)))); have n3_ := Aside0.mk (below_step (by repeat (first | (with_reducible first | exact HB.out | apply below_alloc | apply pw_below_drewN | apply below_drew1) | exact HB.out)) hb); clear HO_7; clear HO347; clear HB; have HO_7 := n0_; have HO347 := n1_; have HO350 := n2_; have HB := n3_; clear n0_ n1_ n2_ n3_; (try clear hb); (try clear hb2); (try clear hk); (try clear hi); (try clear ho0); obtain ⟨Ao52, co52, eo52⟩ := Kd.R_slice HO347.out; subst eo52; obtain ⟨Ao53, co53, eo53⟩ := Kd.R_slice HO350.out; subst eo53) | (go_at_call 20; (with_reducible refine (skiarearef09_SameInts.calls k2 _ _ t345 _ _ t348 true _ ?side1 ?side2 ?side3 ?side4 A37.out).mono ?_); (case side1 => repeat (first | exact (Kd.R_reads' HO347.out).2.2 | (with_reducible refine Kd.C_alloc ?_ _) | (with_reducible refine Kd.C_drewN ?_ _) | (with_reducible refine Kd.C_drew ?_))); (case side2 => exact (Kd.R_reads' HO347.out).2.1); (case side3 => repeat (first | exact (Kd.R_reads' HO350.out).2.2 | (with_reducible refine Kd.C_alloc ?_ _) | (with_reducible refine Kd.C_drewN ?_ _) | (with_reducible refine Kd.C_drew ?_))); (case side4 => exact (Kd.R_reads' HO350.out).2.1); rintro e w' ⟨rfl, ⟨nd, rfl⟩⟩; (try clear A37)) | (go_at_call 23; (with_reducible refine (ledger_Of.calls k2 _ _ x7_2 a2 t352 _ ?side1 ?side2 A39.out).mono ?_); (case side1 => repeat (first | exact (Kd.R_reads' HO_7.out).2.2 | (with_reducible refine Kd.C_alloc ?_ _) | (with_reducible refine Kd.C_drewN ?_ _) | (with_reducible refine Kd.C_drew ?_))); (case side2 => exact (Kd.R_reads' HO_7.out).2.1); rintro e w54 ⟨v353, rfl, ho0, hb⟩; (try clear A39); have n0_ := Aside0.mk (Kd.R_elder' (by (with_reducible repeat (first | apply Kd.R_alloc | apply Kd.R_drewN | apply Kd.R_drew)); exact HO_7.out) (Kd.R_base ho0) hb); have n1_ := Aside0.mk (Kd.R_below (by (with_reducible repeat (first | apply Kd.R_alloc | apply Kd.R_drewN | apply Kd.R_drew)); exact HO347.out) hb); have n2_ := Aside0.mk (Kd.R_below (by (with_reducible repeat (first | apply Kd.R_alloc | apply Kd.R_drewN | apply Kd.R_drew)); exact HO350.out) hb); have n3_ := Aside0.mk (Kd.R_lower (Kd.R_new' ho0 (Kd.R_lt (by (with_reducible repeat (first | apply Kd.R_alloc | apply Kd.R_drewN | apply Kd.R_drew)); exact HO_7.out))) (below_size (by repeat (first | (with_reducible first | exact HB.out | apply below_alloc | apply pw_below_drewN | apply below_drew1) | exact HB.out)))); have n4_ := Aside0.mk (below_step (by repeat (first | (with_reducible first | exact HB.out | apply below_alloc | apply pw_below_drewN | apply below_drew1) | exact HB.out)) hb); clear HO_7; clear HO347; clear HO350; clear HB; have HO_7 := n0_; have HO347 := n1_; have HO350 := n2_; have HO354 := n3_; have HB := n4_; clear n0_ n1_ n2_ n3_ n4_; (try clear hb); (try clear hb2); (try clear hk); (try clear hi); (try clear ho0); obtain ⟨Ao55, co55, eo55⟩ := Kd.R_slice HO354.out; subst eo55) | (go_at_call 23; (with_reducible refine (ledger_Of.calls k2 _ _ l0 a2 t355 _ ?side1 ?side2 A40.out).mono ?_); (case side1 => repeat (first | exact (Kd.C_below HR0.out HB.out) | (with_reducible refine Kd.C_alloc ?_ _) | (with_reducible refine Kd.C_drewN ?_ _) | (with_reducible refine Kd.C_drew ?_))); (case side2 => exact HC0.out); rintro e w56 ⟨v356, rfl, ho0, hb⟩; (try clear A40); have n0_ := Aside0.mk (Kd.R_elder' (by (with_reducible repeat (first | apply Kd.R_alloc | apply Kd.R_drewN | apply Kd.R_drew)); exact HO_7.out) (Kd.R_base ho0) hb); have n1_ := Aside0.mk (Kd.R_below (by (with_reducible repeat (first | apply Kd.R_alloc | apply Kd.R_drewN | apply Kd.R_drew)); exact HO347.out) hb); have n2_ := Aside0.mk (Kd.R_below (by (with_reducible repeat (first | apply Kd.R_alloc | apply Kd.R_drewN | apply Kd.R_drew)); exact HO350.out) hb); have n3_ := Aside0.mk (Kd.R_elder' (by (with_reducible repeat (first | apply Kd.R_alloc | apply Kd.R_drewN | apply Kd.R_drew)); exact HO354.out) (Kd.R_base ho0) hb); have n4_ := Aside0.mk (Kd.R_lower (Kd.R_new' (Kd.R_new' ho0 (Kd.R_lt (by (with_reducible repeat (first | apply Kd.R_alloc | apply Kd.R_drewN | apply Kd.R_drew)); exact HO_7.out))) (Kd.R_lt (by (with_reducible repeat (first | apply Kd.R_alloc | apply Kd.R_drewN | apply Kd.R_drew)); exact HO354.out))) (below_size (by repeat (first | (with_reducible first | exact HB.out | apply below_alloc | apply pw_below_drewN | apply below_drew1) | exact HB.out)))); have n5_ := Aside0.mk (below_step (by repeat (first | (with_reducible first | exact HB.out | apply below_alloc | apply pw_below_drewN | apply below_drew1) | exact HB.out)) hb); clear HO_7; clear HO347; clear HO350; clear HO354; clear HB; have HO_7 := n0_; have HO347 := n1_; have HO350 := n2_; have HO354 := n3_; have HO357 := n4_; have HB := n5_; clear n0_ n1_ n2_ n3_ n4_ n5_; (try clear hb); (try clear hb2); (try clear hk); (try clear hi); (try clear ho0); obtain ⟨Ao57, co57, eo57⟩ := Kd.R_slice HO357.out; subst eo57))
                                    go_ret
                                    exact ⟨by first | rfl | (simp [errW_none, errW_some] <;> rfl) | (simp only [← hji19]; first | rfl | (simp [errW_none, errW_some] <;> rfl)) | (simp [*, errW_none, errW_some] <;> rfl), by repeat (first | (with_reducible first | exact HB.out | apply below_alloc | apply pw_below_drewN | apply below_drew1) | exact HB.out)⟩
                                  · replace c38 := Bool.eq_false_iff.mpr c38
                                    subst c38
                                    have H1 : (none) = some r := by rw [if_neg (show ¬ (false = true) by decide)] at H; exact H
                                    clear H
                                    have H := H1
                                    clear H1
                                    exact absurd H (by simp)
                                · rw [if_neg c34] at H
                                  exact absurd H (by simp)
                              · rw [if_neg c32] at H
                                exact absurd H (by simp)
                            · rw [if_neg c30] at H
                              exact absurd H (by simp)
                          · rw [if_neg c29] at H
                            exact absurd H (by simp)
                        · rw [if_neg c28] at H
                          exact absurd H (by simp)
                      · rw [if_neg c27] at H
                        exact absurd H (by simp)
                    · rw [if_neg c21] at H
                      exact absurd H (by simp)
                  · rw [if_neg c20] at H
                    exact absurd H (by simp)
  · replace c5 := Bool.eq_false_iff.mpr c5
    subst c5
    have H1 : (none) = some r := by rw [if_neg (show ¬ (false = true) by decide)] at H; exact H
    clear H
    have H := H1
    clear H1
    exact absurd H (by simp)

end Go.Proofs.Ytjhmcepcealelaa.A
