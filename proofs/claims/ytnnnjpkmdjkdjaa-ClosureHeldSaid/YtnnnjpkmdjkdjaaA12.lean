-- PRINTED by print.py (a twelfth state) out of the translation. Not trusted: Lean checks it.
import Derived.Test.YtnnnjpkmdjkdjaaA0
namespace Go.Proofs.Ytnnnjpkmdjkdjaa.A
open Go.RowKit Go.Proofs.YtnnnjpkmdjkdjaaW.PrintWords Go.Proofs.YtnnnjpkmdjkdjaaW.PrintLast Go.Proofs.YtnnnjpkmdjkdjaaW.PrintMore
attribute [local go_sem] max2_int min2_int max_two min_two max_three min_three max_four min_four   -- for this text's walks alone
set_option linter.unusedVariables false
set_option linter.unusedSimpArgs false

-- by hand: terrain.Run.tpl
def terrain_Run.pr (a0 : Int) (x : S56) : Bool := x.f0 == a0
def terrain_Run.idx (p : S56 → Bool) : Nat → List (S56) → Int
  | _, [] => -1
  | i, x :: xs => if p x = true then (i : Int) else terrain_Run.idx p (i + 1) xs
theorem terrain_Run.idx_rng (p : S56 → Bool) (xs : List (S56)) : ∀ i, terrain_Run.idx p i xs = -1 ∨ ∃ j, j < xs.length ∧ terrain_Run.idx p i xs = ((i + j : Nat) : Int) := by
  induction xs with
  | nil => intro i; exact .inl rfl
  | cons x xs ih =>
    intro i
    simp only [terrain_Run.idx]
    split
    · exact .inr ⟨0, by simp, by simp⟩
    · rcases ih (i + 1) with h | ⟨j, hj, h⟩
      · exact .inl h
      · exact .inr ⟨j + 1, by simp; omega, by rw [h]; congr 1; omega⟩
def terrain_Run.at (l : List (S56)) (i : Int) : Int × Int × Int × Int × Int × Int × Int × Bool := if i < 0 then (0, 0, 0, 0, 0, 0, 0, false) else ((rd_T56 l i).f0, (rd_T56 l i).f1, (rd_T56 l i).f2, (rd_T56 l i).f3, (rd_T56 l i).f4, (rd_T56 l i).f5, (rd_T56 l i).f6, true)
def terrain_Run.f (l0_0 : List (S59)) (l0_1 : List (S76)) (l0_2 : List (S56)) (l0_3 : List (Int)) (a1 : Int) : Option (Int × Int × Int × Int × Int × Int × Int × Bool) := some (terrain_Run.at l0_2 (terrain_Run.idx (terrain_Run.pr a1) 0 l0_2))
set_option maxHeartbeats 4000000 in
set_option maxRecDepth 100000 in
theorem terrain_Run.fn (a0 : Int) (B0 : Nat) (x0 : Int) (x1 : Int) (x2 : Int) (x3 : Int) (x4 : Int) (x5 : Int) (x6 : Int) (w : World) (hk0 : w.heap[B0]? = some (.cells #[.int .i64 a0] 3 (0, 0))) :
    Calls Try.prog 52 #[.agg #[.int .i64 x0, .int .i64 x1, .int .i64 x2, .int .i64 x3, .int .i64 x4, .int .i64 x5, .int .i64 x6], .pointer (some ⟨B0, 0, none⟩)] w fun e w' => e = .returned (.bool (x0 == a0)) ∧ Below w.heap.size w w' := by
  have hu := Try.underlying56
  have BK0 := Aside0.mk hk0
  clear hk0
  go_enter Try.func52, Try.ntmps52
  go_wp2_with (first | ((with_reducible refine gate_dst (N := 2) rfl ?_); refine box_event ?hg (N := 2) ?hd (cs := #[.int .i64 x0, .int .i64 x1, .int .i64 x2, .int .i64 x3, .int .i64 x4, .int .i64 x5, .int .i64 x6]) (t := 56) ?hr ?_; (case hd => rfl); (case hg => rfl); (case hr => first | (go_simp; done) | (go_simp; rfl)); intro gb hgb w8 hbox hb; have BK0' := Aside0.mk (blk_below BK0.out hb); have HB1 := Aside0.mk hb; have BX := Aside0.mk hbox; have hcx0 : w8.cell? ⟨gb, 0, none⟩ = some (.int .i64 x0) := (blk_cell BX.out 0).trans rfl; have hcx1 : w8.cell? ⟨gb, 1, none⟩ = some (.int .i64 x1) := (blk_cell BX.out 1).trans rfl; have hcx2 : w8.cell? ⟨gb, 2, none⟩ = some (.int .i64 x2) := (blk_cell BX.out 2).trans rfl; have hcx3 : w8.cell? ⟨gb, 3, none⟩ = some (.int .i64 x3) := (blk_cell BX.out 3).trans rfl; have hcx4 : w8.cell? ⟨gb, 4, none⟩ = some (.int .i64 x4) := (blk_cell BX.out 4).trans rfl; have hcx5 : w8.cell? ⟨gb, 5, none⟩ = some (.int .i64 x5) := (blk_cell BX.out 5).trans rfl; have hcx6 : w8.cell? ⟨gb, 6, none⟩ = some (.int .i64 x6) := (blk_cell BX.out 6).trans rfl; have hck0_0 : w8.cell? ⟨B0, 0, none⟩ = some (.int .i64 a0) := (blk_cell BK0'.out 0).trans rfl; clear hb hbox hgb))
  go_ret
  exact ⟨by first | rfl | (simp [*]; done) | (simp only [Bool.and_true]; simp; done), HB1.out⟩
set_option maxHeartbeats 4000000 in
set_option maxRecDepth 100000 in
theorem terrain_Run.ix (a0 : Int) (B0 : Nat) (A0 : Option Addr) (c0 : Nat) (l0 : List (S56)) (w : World) (hr0 : Kd.C k56 w A0 l0.length l0) (hk0 : w.heap[B0]? = some (.cells #[.int .i64 a0] 3 (0, 0))) (r : Int) (hR : terrain_Run.idx (terrain_Run.pr a0) 0 l0 = r) :
    Calls Try.prog 51 #[.slice A0 l0.length c0, .func (.func 52) #[] #[.pointer (some ⟨B0, 0, none⟩)]] w fun e w' => e = .returned (.int .i64 r) ∧ Below w.heap.size w w' := by
  have HR0 := Aside0.mk hr0
  have BK0 := Aside0.mk hk0
  have hm := HR0.out.2.1
  have HR := Aside0.mk hR
  clear hr0 hR hk0
  go_enter Try.func51, Try.ntmps51
  go_wp2
  go_loopw [8] (fun v wr => ∃ (k : Nat), k ≤ l0.length ∧ v = .int .i64 k ∧ Aside0 (terrain_Run.idx (terrain_Run.pr a0) k (l0.drop k) = r) ∧ Aside0 (Below w.heap.size w wr)) (fun v _ => l0.length - (intOf v).toNat)
  case atStart => exact ⟨0, Nat.zero_le _, rfl, ⟨by rw [List.drop_zero]; exact HR.out⟩, ⟨Below.refl _ _⟩⟩
  case round =>
    obtain ⟨k, hk, rfl, HG, HB⟩ := hrel
    clear HR
    by_cases hlt : k < l0.length
    · have hg := HG.out
      clear HG
      have hd : l0.drop k = rd_T56 l0 (k : Int) :: l0.drop (k + 1) := by
        rw [List.drop_eq_getElem_cons hlt]
        simp [rd_T56, hlt]
      rw [hd] at hg
      simp only [terrain_Run.idx] at hg
      clear hd
      obtain ⟨ad, e, hx0, hx1, hx2, hx3, hx4, hx5, hx6⟩ := at_T56 HR0.out (k : Int) (by omega) (by omega)
      cases e
      simp only [Int.toNat_natCast] at hx0 hx1 hx2 hx3 hx4 hx5 hx6
      replace hx0 := (HB.out.cell (World.block_lt_of_cell? w _ hx0)).trans hx0
      replace hx1 := (HB.out.cell (World.block_lt_of_cell? w _ hx1)).trans hx1
      replace hx2 := (HB.out.cell (World.block_lt_of_cell? w _ hx2)).trans hx2
      replace hx3 := (HB.out.cell (World.block_lt_of_cell? w _ hx3)).trans hx3
      replace hx4 := (HB.out.cell (World.block_lt_of_cell? w _ hx4)).trans hx4
      replace hx5 := (HB.out.cell (World.block_lt_of_cell? w _ hx5)).trans hx5
      replace hx6 := (HB.out.cell (World.block_lt_of_cell? w _ hx6)).trans hx6
      obtain ⟨x, hx⟩ : ∃ z, z = rd_T56 l0 (k : Int) := ⟨_, rfl⟩
      rw [← hx] at hx0 hx1 hx2 hx3 hx4 hx5 hx6 hg
      clear hx
      have HF := Aside0.mk (terrain_Run.fn a0 B0 x.f0 x.f1 x.f2 x.f3 x.f4 x.f5 x.f6 wr (blk_below BK0.out HB.out))
      obtain ⟨v, hv⟩ : ∃ z, z = terrain_Run.pr a0 x := ⟨_, rfl⟩
      have HV : Aside0 (Calls Try.prog 52 #[.agg #[.int .i64 x.f0, .int .i64 x.f1, .int .i64 x.f2, .int .i64 x.f3, .int .i64 x.f4, .int .i64 x.f5, .int .i64 x.f6], .pointer (some ⟨B0, 0, none⟩)] wr fun e w' => e = .returned (.bool v) ∧ Below wr.heap.size wr w') := ⟨by rw [hv]; exact HF.out⟩
      rw [← hv] at hg
      clear hv HF
      cases v with
      | true =>
        rw [if_pos rfl] at hg
        subst hg
        go_wp2_with (first | (go_at_call 52; refine HV.out.mono ?_; rintro e w9 ⟨rfl, hb⟩; have HB2 := Aside0.mk (below_then HB.out HB.out.size hb); clear hb))
        go_ret
        exact ⟨rfl, HB2.out⟩
      | false =>
        rw [if_neg (by simp)] at hg
        have HG := Aside0.mk hg
        clear hg
        go_wp2_with (first | (go_at_call 52; refine HV.out.mono ?_; rintro e w9 ⟨rfl, hb⟩; have HB2 := Aside0.mk (below_then HB.out HB.out.size hb); clear hb))
        exact ⟨⟨k + 1, by omega, by go_num, HG, HB2⟩, by simp [intOf]; omega⟩
    · have : l0.drop k = [] := List.drop_eq_nil_of_le (by omega)
      have hg := HG.out
      clear HG
      rw [this] at hg
      simp only [terrain_Run.idx] at hg
      subst hg
      clear this
      go_wp2
      go_ret
      exact ⟨rfl, HB.out⟩
set_option maxHeartbeats 4000000 in
set_option maxRecDepth 100000 in
theorem terrain_Run.calls (A0_0 : Option Addr) (c0_0 : Nat) (l0_0 : List (S59)) (A0_1 : Option Addr) (c0_1 : Nat) (l0_1 : List (S76)) (A0_2 : Option Addr) (c0_2 : Nat) (l0_2 : List (S56)) (A0_3 : Option Addr) (c0_3 : Nat) (l0_3 : List (Int)) (a1 : Int) (r1 : Int) (r2 : Int) (r3 : Int) (r4 : Int) (r5 : Int) (r6 : Int) (r7 : Int) (r8 : Bool) (w : World) (hr0_0 : Kd.C k59 w A0_0 l0_0.length l0_0) (hc0_0 : l0_0.length ≤ c0_0) (hr0_1 : Kd.C k76 w A0_1 l0_1.length l0_1) (hc0_1 : l0_1.length ≤ c0_1) (hr0_2 : Kd.C k56 w A0_2 l0_2.length l0_2) (hc0_2 : l0_2.length ≤ c0_2) (hr0_3 : Kd.C (Kd.int .i64) w A0_3 l0_3.length l0_3) (hc0_3 : l0_3.length ≤ c0_3) (h : terrain_Run.f l0_0 l0_1 l0_2 l0_3 a1 = some (r1, r2, r3, r4, r5, r6, r7, r8)) :
    Calls Try.prog 40 #[.agg #[.slice A0_0 l0_0.length c0_0, .slice A0_1 l0_1.length c0_1, .slice A0_2 l0_2.length c0_2, .slice A0_3 l0_3.length c0_3], .int .i64 a1] w fun e w' => e = .returned (.tuple #[.agg #[.int .i64 r1, .int .i64 r2, .int .i64 r3, .int .i64 r4, .int .i64 r5, .int .i64 r6, .int .i64 r7], .bool r8]) ∧ Below w.heap.size w w' := by
  have hu41 := Try.underlying41
  have hu56 := Try.underlying56
  have h' := Option.some.inj h
  clear h
  have HR2 := Aside0.mk hr0_2
  clear hr0_0 hr0_1 hr0_2 hr0_3 hc0_0 hc0_1 hc0_2 hc0_3
  obtain ⟨q, hq⟩ : ∃ z, z = terrain_Run.idx (terrain_Run.pr a1) 0 l0_2 := ⟨_, rfl⟩
  have hrng := terrain_Run.idx_rng (terrain_Run.pr a1) l0_2 0
  rw [← hq] at h' hrng
  have HQ := Aside0.mk hq.symm
  clear hq
  have H' := Aside0.mk h'
  clear h'
  rcases hrng with hq | ⟨k, hk, hq⟩
  · subst hq
    have hh := H'.out
    simp only [terrain_Run.at, show (-1 : Int) < 0 by omega, if_true, Prod.mk.injEq] at hh
    obtain ⟨rfl, rfl, rfl, rfl, rfl, rfl, rfl, rfl⟩ := hh
    go_enter Try.func40, Try.ntmps40
    go_wp2_with (first | ((with_reducible refine gate_dst (N := 2) rfl ?_); refine box_event ?hg (N := 2) ?hd (cs := #[.slice A0_0 l0_0.length c0_0, .slice A0_1 l0_1.length c0_1, .slice A0_2 l0_2.length c0_2, .slice A0_3 l0_3.length c0_3]) (t := 41) ?hr ?_; (case hd => rfl); (case hg => rfl); (case hr => first | (go_simp; done) | (go_simp; rfl)); intro gm hgb w8 hbox hb; have HB1 := Aside0.mk hb; have BM := Aside0.mk hbox; clear hb hbox hgb) | ((with_reducible refine gate_dst (N := 3) rfl ?_); refine box_event ?hg (N := 3) ?hd (cs := #[.int .i64 a1]) (t := 3) ?hr ?_; (case hd => rfl); (case hg => rfl); (case hr => first | (go_simp; done) | (go_simp; rfl)); intro gi hgb w8 hbox hb; have BM' := Aside0.mk (blk_below BM.out hb); have HB2 := Aside0.mk (below_then HB1.out HB1.out.size hb); have BI := Aside0.mk hbox; clear hb hbox hgb) | ((with_reducible refine gate_dst (N := 4) rfl ?_); refine box_event ?hg (N := 4) ?hd (cs := #[.int .i64 0, .int .i64 0, .int .i64 0, .int .i64 0, .int .i64 0, .int .i64 0, .int .i64 0]) (t := 56) ?hr ?_; (case hd => rfl); (case hg => rfl); (case hr => first | (go_simp; done) | (go_simp; rfl)); intro gr hgb w8 hbox hb; have BM'' := Aside0.mk (blk_below BM'.out hb); have BI' := Aside0.mk (blk_below BI.out hb); have HB3 := Aside0.mk (below_then HB2.out HB2.out.size hb); have BR := Aside0.mk hbox; have GR := Aside0.mk (show w.heap.size ≤ gr by rw [hgb]; exact below_size HB2.out); have hcmw8_0 : w8.cell? ⟨gm, 0, none⟩ = some (.slice A0_0 l0_0.length c0_0) := (blk_cell BM''.out 0).trans rfl; have hcmw8_1 : w8.cell? ⟨gm, 1, none⟩ = some (.slice A0_1 l0_1.length c0_1) := (blk_cell BM''.out 1).trans rfl; have hcmw8_2 : w8.cell? ⟨gm, 2, none⟩ = some (.slice A0_2 l0_2.length c0_2) := (blk_cell BM''.out 2).trans rfl; have hcmw8_3 : w8.cell? ⟨gm, 3, none⟩ = some (.slice A0_3 l0_3.length c0_3) := (blk_cell BM''.out 3).trans rfl; clear hb hbox hgb) | (go_at_call 51; refine (terrain_Run.ix a1 gi _ _ l0_2 _ (Kd.C_below HR2.out HB3.out) BI'.out _ HQ.out).mono ?_; rintro e w9 ⟨rfl, hb⟩; have HB4 := Aside0.mk (below_then HB3.out HB3.out.size hb); have BR' := Aside0.mk (blk_below BR.out hb); have BM3 := Aside0.mk (blk_below BM''.out hb); clear hb; have hcr0 : w9.cell? ⟨gr, 0, none⟩ = some (.int .i64 0) := (blk_cell BR'.out 0).trans rfl; have hfr0 := blk_frozen BR'.out 0; have hcr1 : w9.cell? ⟨gr, 1, none⟩ = some (.int .i64 0) := (blk_cell BR'.out 1).trans rfl; have hfr1 := blk_frozen BR'.out 1; have hcr2 : w9.cell? ⟨gr, 2, none⟩ = some (.int .i64 0) := (blk_cell BR'.out 2).trans rfl; have hfr2 := blk_frozen BR'.out 2; have hcr3 : w9.cell? ⟨gr, 3, none⟩ = some (.int .i64 0) := (blk_cell BR'.out 3).trans rfl; have hfr3 := blk_frozen BR'.out 3; have hcr4 : w9.cell? ⟨gr, 4, none⟩ = some (.int .i64 0) := (blk_cell BR'.out 4).trans rfl; have hfr4 := blk_frozen BR'.out 4; have hcr5 : w9.cell? ⟨gr, 5, none⟩ = some (.int .i64 0) := (blk_cell BR'.out 5).trans rfl; have hfr5 := blk_frozen BR'.out 5; have hcr6 : w9.cell? ⟨gr, 6, none⟩ = some (.int .i64 0) := (blk_cell BR'.out 6).trans rfl; have hfr6 := blk_frozen BR'.out 6; have hcmw9_0 : w9.cell? ⟨gm, 0, none⟩ = some (.slice A0_0 l0_0.length c0_0) := (blk_cell BM3.out 0).trans rfl; have hcmw9_1 : w9.cell? ⟨gm, 1, none⟩ = some (.slice A0_1 l0_1.length c0_1) := (blk_cell BM3.out 1).trans rfl; have hcmw9_2 : w9.cell? ⟨gm, 2, none⟩ = some (.slice A0_2 l0_2.length c0_2) := (blk_cell BM3.out 2).trans rfl; have hcmw9_3 : w9.cell? ⟨gm, 3, none⟩ = some (.slice A0_3 l0_3.length c0_3) := (blk_cell BM3.out 3).trans rfl))
    refine bodyPost_ret (results_ct rfl _ _ gr 56 #[.int .i64 0, .int .i64 0, .int .i64 0, .int .i64 0, .int .i64 0, .int .i64 0, .int .i64 0] (0, 0) _ rfl (by (with_reducible repeat (first | refine bN_ ?_ _ | refine bD_ ?_ | refine bA_ ?_ _)); refine blk_put (cs := #[.int .i64 0, .int .i64 0, .int .i64 0, .int .i64 0, .int .i64 0, .int .i64 0, .int .i64 0]) ?_ 6 _ rfl; (with_reducible repeat (first | refine bN_ ?_ _ | refine bD_ ?_ | refine bA_ ?_ _)); refine blk_put (cs := #[.int .i64 0, .int .i64 0, .int .i64 0, .int .i64 0, .int .i64 0, .int .i64 0, .int .i64 0]) ?_ 5 _ rfl; (with_reducible repeat (first | refine bN_ ?_ _ | refine bD_ ?_ | refine bA_ ?_ _)); refine blk_put (cs := #[.int .i64 0, .int .i64 0, .int .i64 0, .int .i64 0, .int .i64 0, .int .i64 0, .int .i64 0]) ?_ 4 _ rfl; (with_reducible repeat (first | refine bN_ ?_ _ | refine bD_ ?_ | refine bA_ ?_ _)); refine blk_put (cs := #[.int .i64 0, .int .i64 0, .int .i64 0, .int .i64 0, .int .i64 0, .int .i64 0, .int .i64 0]) ?_ 3 _ rfl; (with_reducible repeat (first | refine bN_ ?_ _ | refine bD_ ?_ | refine bA_ ?_ _)); refine blk_put (cs := #[.int .i64 0, .int .i64 0, .int .i64 0, .int .i64 0, .int .i64 0, .int .i64 0, .int .i64 0]) ?_ 2 _ rfl; (with_reducible repeat (first | refine bN_ ?_ _ | refine bD_ ?_ | refine bA_ ?_ _)); refine blk_put (cs := #[.int .i64 0, .int .i64 0, .int .i64 0, .int .i64 0, .int .i64 0, .int .i64 0, .int .i64 0]) ?_ 1 _ rfl; (with_reducible repeat (first | refine bN_ ?_ _ | refine bD_ ?_ | refine bA_ ?_ _)); refine blk_put (cs := #[.int .i64 0, .int .i64 0, .int .i64 0, .int .i64 0, .int .i64 0, .int .i64 0, .int .i64 0]) ?_ 0 _ rfl; (with_reducible repeat (first | refine bN_ ?_ _ | refine bD_ ?_ | refine bA_ ?_ _)); exact BR'.out) Try.underlying56 rfl (by kernel_rfl)) rfl ?_
    exact ⟨by first | rfl | (simp [*]; done), by repeat (first | (with_reducible first | exact HB4.out | apply lA_ | apply lN_ | apply lD_ | refine lS_ ?_ GR.out) | exact HB4.out)⟩
  · rw [Nat.zero_add] at hq
    subst hq
    have hn : ¬ ((k : Int) < 0) := by omega
    have hd : decide ((k : Int) < 0) = false := decide_eq_false hn
    have hh := H'.out
    obtain ⟨ad, e, hx0, hx1, hx2, hx3, hx4, hx5, hx6⟩ := at_T56 HR2.out (k : Int) (by omega) (by omega)
    cases e
    simp only [Int.toNat_natCast] at hx0 hx1 hx2 hx3 hx4 hx5 hx6
    obtain ⟨x, hx⟩ : ∃ z, z = rd_T56 l0_2 (k : Int) := ⟨_, rfl⟩
    simp only [terrain_Run.at, if_neg hn, Prod.mk.injEq] at hh
    rw [← hx] at hx0 hx1 hx2 hx3 hx4 hx5 hx6 hh
    clear hx H'
    obtain ⟨rfl, rfl, rfl, rfl, rfl, rfl, rfl, rfl⟩ := hh
    have HX0 := Aside0.mk hx0
    have HX1 := Aside0.mk hx1
    have HX2 := Aside0.mk hx2
    have HX3 := Aside0.mk hx3
    have HX4 := Aside0.mk hx4
    have HX5 := Aside0.mk hx5
    have HX6 := Aside0.mk hx6
    have hlt : (k : Int) < (l0_2.length : Int) := by omega
    have hge : (0 : Int) ≤ (k : Int) := by omega
    clear hx0 hx1 hx2 hx3 hx4 hx5 hx6
    go_enter Try.func40, Try.ntmps40
    go_wp2_with (first | ((with_reducible refine gate_dst (N := 2) rfl ?_); refine box_event ?hg (N := 2) ?hd (cs := #[.slice A0_0 l0_0.length c0_0, .slice A0_1 l0_1.length c0_1, .slice (some ad) l0_2.length c0_2, .slice A0_3 l0_3.length c0_3]) (t := 41) ?hr ?_; (case hd => rfl); (case hg => rfl); (case hr => first | (go_simp; done) | (go_simp; rfl)); intro gm hgb w8 hbox hb; have HB1 := Aside0.mk hb; have BM := Aside0.mk hbox; clear hb hbox hgb) | ((with_reducible refine gate_dst (N := 3) rfl ?_); refine box_event ?hg (N := 3) ?hd (cs := #[.int .i64 a1]) (t := 3) ?hr ?_; (case hd => rfl); (case hg => rfl); (case hr => first | (go_simp; done) | (go_simp; rfl)); intro gi hgb w8 hbox hb; have BM' := Aside0.mk (blk_below BM.out hb); have HB2 := Aside0.mk (below_then HB1.out HB1.out.size hb); have BI := Aside0.mk hbox; clear hb hbox hgb) | ((with_reducible refine gate_dst (N := 4) rfl ?_); refine box_event ?hg (N := 4) ?hd (cs := #[.int .i64 0, .int .i64 0, .int .i64 0, .int .i64 0, .int .i64 0, .int .i64 0, .int .i64 0]) (t := 56) ?hr ?_; (case hd => rfl); (case hg => rfl); (case hr => first | (go_simp; done) | (go_simp; rfl)); intro gr hgb w8 hbox hb; have BM'' := Aside0.mk (blk_below BM'.out hb); have BI' := Aside0.mk (blk_below BI.out hb); have HB3 := Aside0.mk (below_then HB2.out HB2.out.size hb); have BR := Aside0.mk hbox; have GR := Aside0.mk (show w.heap.size ≤ gr by rw [hgb]; exact below_size HB2.out); have hcmw8_0 : w8.cell? ⟨gm, 0, none⟩ = some (.slice A0_0 l0_0.length c0_0) := (blk_cell BM''.out 0).trans rfl; have hcmw8_1 : w8.cell? ⟨gm, 1, none⟩ = some (.slice A0_1 l0_1.length c0_1) := (blk_cell BM''.out 1).trans rfl; have hcmw8_2 : w8.cell? ⟨gm, 2, none⟩ = some (.slice (some ad) l0_2.length c0_2) := (blk_cell BM''.out 2).trans rfl; have hcmw8_3 : w8.cell? ⟨gm, 3, none⟩ = some (.slice A0_3 l0_3.length c0_3) := (blk_cell BM''.out 3).trans rfl; clear hb hbox hgb) | (go_at_call 51; refine (terrain_Run.ix a1 gi _ _ l0_2 _ (Kd.C_below HR2.out HB3.out) BI'.out _ HQ.out).mono ?_; rintro e w9 ⟨rfl, hb⟩; have HB4 := Aside0.mk (below_then HB3.out HB3.out.size hb); have BR' := Aside0.mk (blk_below BR.out hb); have BM3 := Aside0.mk (blk_below BM''.out hb); clear hb; have hcr0 : w9.cell? ⟨gr, 0, none⟩ = some (.int .i64 0) := (blk_cell BR'.out 0).trans rfl; have hfr0 := blk_frozen BR'.out 0; have hcr1 : w9.cell? ⟨gr, 1, none⟩ = some (.int .i64 0) := (blk_cell BR'.out 1).trans rfl; have hfr1 := blk_frozen BR'.out 1; have hcr2 : w9.cell? ⟨gr, 2, none⟩ = some (.int .i64 0) := (blk_cell BR'.out 2).trans rfl; have hfr2 := blk_frozen BR'.out 2; have hcr3 : w9.cell? ⟨gr, 3, none⟩ = some (.int .i64 0) := (blk_cell BR'.out 3).trans rfl; have hfr3 := blk_frozen BR'.out 3; have hcr4 : w9.cell? ⟨gr, 4, none⟩ = some (.int .i64 0) := (blk_cell BR'.out 4).trans rfl; have hfr4 := blk_frozen BR'.out 4; have hcr5 : w9.cell? ⟨gr, 5, none⟩ = some (.int .i64 0) := (blk_cell BR'.out 5).trans rfl; have hfr5 := blk_frozen BR'.out 5; have hcr6 : w9.cell? ⟨gr, 6, none⟩ = some (.int .i64 0) := (blk_cell BR'.out 6).trans rfl; have hfr6 := blk_frozen BR'.out 6; have hcmw9_0 : w9.cell? ⟨gm, 0, none⟩ = some (.slice A0_0 l0_0.length c0_0) := (blk_cell BM3.out 0).trans rfl; have hcmw9_1 : w9.cell? ⟨gm, 1, none⟩ = some (.slice A0_1 l0_1.length c0_1) := (blk_cell BM3.out 1).trans rfl; have hcmw9_2 : w9.cell? ⟨gm, 2, none⟩ = some (.slice (some ad) l0_2.length c0_2) := (blk_cell BM3.out 2).trans rfl; have hcmw9_3 : w9.cell? ⟨gm, 3, none⟩ = some (.slice A0_3 l0_3.length c0_3) := (blk_cell BM3.out 3).trans rfl; have hy0 := (HB4.out.cell (World.block_lt_of_cell? w _ HX0.out)).trans HX0.out; have hy1 := (HB4.out.cell (World.block_lt_of_cell? w _ HX1.out)).trans HX1.out; have hy2 := (HB4.out.cell (World.block_lt_of_cell? w _ HX2.out)).trans HX2.out; have hy3 := (HB4.out.cell (World.block_lt_of_cell? w _ HX3.out)).trans HX3.out; have hy4 := (HB4.out.cell (World.block_lt_of_cell? w _ HX4.out)).trans HX4.out; have hy5 := (HB4.out.cell (World.block_lt_of_cell? w _ HX5.out)).trans HX5.out; have hy6 := (HB4.out.cell (World.block_lt_of_cell? w _ HX6.out)).trans HX6.out; ))
    refine bodyPost_ret (results_ct rfl _ _ gr 56 #[.int .i64 x.f0, .int .i64 x.f1, .int .i64 x.f2, .int .i64 x.f3, .int .i64 x.f4, .int .i64 x.f5, .int .i64 x.f6] (0, 0) _ rfl (by (with_reducible repeat (first | refine bN_ ?_ _ | refine bD_ ?_ | refine bA_ ?_ _)); refine blk_put (cs := #[.int .i64 x.f0, .int .i64 x.f1, .int .i64 x.f2, .int .i64 x.f3, .int .i64 x.f4, .int .i64 x.f5, .int .i64 0]) ?_ 6 _ rfl; (with_reducible repeat (first | refine bN_ ?_ _ | refine bD_ ?_ | refine bA_ ?_ _)); refine blk_put (cs := #[.int .i64 x.f0, .int .i64 x.f1, .int .i64 x.f2, .int .i64 x.f3, .int .i64 x.f4, .int .i64 0, .int .i64 0]) ?_ 5 _ rfl; (with_reducible repeat (first | refine bN_ ?_ _ | refine bD_ ?_ | refine bA_ ?_ _)); refine blk_put (cs := #[.int .i64 x.f0, .int .i64 x.f1, .int .i64 x.f2, .int .i64 x.f3, .int .i64 0, .int .i64 0, .int .i64 0]) ?_ 4 _ rfl; (with_reducible repeat (first | refine bN_ ?_ _ | refine bD_ ?_ | refine bA_ ?_ _)); refine blk_put (cs := #[.int .i64 x.f0, .int .i64 x.f1, .int .i64 x.f2, .int .i64 0, .int .i64 0, .int .i64 0, .int .i64 0]) ?_ 3 _ rfl; (with_reducible repeat (first | refine bN_ ?_ _ | refine bD_ ?_ | refine bA_ ?_ _)); refine blk_put (cs := #[.int .i64 x.f0, .int .i64 x.f1, .int .i64 0, .int .i64 0, .int .i64 0, .int .i64 0, .int .i64 0]) ?_ 2 _ rfl; (with_reducible repeat (first | refine bN_ ?_ _ | refine bD_ ?_ | refine bA_ ?_ _)); refine blk_put (cs := #[.int .i64 x.f0, .int .i64 0, .int .i64 0, .int .i64 0, .int .i64 0, .int .i64 0, .int .i64 0]) ?_ 1 _ rfl; (with_reducible repeat (first | refine bN_ ?_ _ | refine bD_ ?_ | refine bA_ ?_ _)); refine blk_put (cs := #[.int .i64 0, .int .i64 0, .int .i64 0, .int .i64 0, .int .i64 0, .int .i64 0, .int .i64 0]) ?_ 0 _ rfl; (with_reducible repeat (first | refine bN_ ?_ _ | refine bD_ ?_ | refine bA_ ?_ _)); exact BR'.out) Try.underlying56 rfl (by kernel_rfl)) rfl ?_
    exact ⟨by first | rfl | (simp [*]; done), by repeat (first | (with_reducible first | exact HB4.out | apply lA_ | apply lN_ | apply lD_ | refine lS_ ?_ GR.out) | exact HB4.out)⟩

end Go.Proofs.Ytnnnjpkmdjkdjaa.A
