-- PRINTED by print.py (a twelfth state) out of the translation. Not trusted: Lean checks it.
import Derived.Test.YtjlfaoaoinhebaaA0
import Derived.Test.YtjlfaoaoinhebaaA5
import Derived.Test.YtjlfaoaoinhebaaA6
namespace Go.Proofs.Ytjlfaoaoinhebaa.A
open Go.RowKit Go.Proofs.YtjlfaoaoinhebaaW.PrintWords Go.Proofs.YtjlfaoaoinhebaaW.PrintLast Go.Proofs.YtjlfaoaoinhebaaW.PrintMore
attribute [local go_sem] max2_int min2_int max_two min_two max_three min_three max_four min_four   -- for this text's walks alone
set_option linter.unusedVariables false
set_option linter.unusedSimpArgs false

-- by hand: blast.Clear.tpl
def blast_Clear.pr (a0 : Int) (x : S30) : Bool := x.f0 == a0
def blast_Clear.idx (p : S30 → Bool) : Nat → List (S30) → Int
  | _, [] => -1
  | i, x :: xs => if p x = true then (i : Int) else blast_Clear.idx p (i + 1) xs
set_option maxHeartbeats 4000000 in
set_option maxRecDepth 100000 in
theorem blast_Clear.fn (a0 : Int) (B0 : Nat) (x0 : Int) (x1 : Int) (x2 : Int) (x3 : Int) (x4 : Int) (x5 : Int) (x6 : Int) (w : World) (hk0 : w.heap[B0]? = some (.cells #[.int .i64 a0] 3 (0, 0))) :
    Calls Try.prog 56 #[.agg #[.int .i64 x0, .int .i64 x1, .int .i64 x2, .int .i64 x3, .int .i64 x4, .int .i64 x5, .int .i64 x6], .pointer (some ⟨B0, 0, none⟩)] w fun e w' => e = .returned (.bool (x0 == a0)) ∧ Below w.heap.size w w' := by
  have hu := Try.underlying30
  have BK0 := Aside0.mk hk0
  clear hk0
  go_enter Try.func56, Try.ntmps56
  go_wp2_with (first | ((with_reducible refine gate_dst (N := 2) rfl ?_); refine box_event ?hg (N := 2) ?hd (cs := #[.int .i64 x0, .int .i64 x1, .int .i64 x2, .int .i64 x3, .int .i64 x4, .int .i64 x5, .int .i64 x6]) (t := 30) ?hr ?_; (case hd => rfl); (case hg => rfl); (case hr => first | (go_simp; done) | (go_simp; rfl)); intro gb hgb w8 hbox hb; have BK0' := Aside0.mk (blk_below BK0.out hb); have HB1 := Aside0.mk hb; have BX := Aside0.mk hbox; have hcx0 : w8.cell? ⟨gb, 0, none⟩ = some (.int .i64 x0) := (blk_cell BX.out 0).trans rfl; have hcx1 : w8.cell? ⟨gb, 1, none⟩ = some (.int .i64 x1) := (blk_cell BX.out 1).trans rfl; have hcx2 : w8.cell? ⟨gb, 2, none⟩ = some (.int .i64 x2) := (blk_cell BX.out 2).trans rfl; have hcx3 : w8.cell? ⟨gb, 3, none⟩ = some (.int .i64 x3) := (blk_cell BX.out 3).trans rfl; have hcx4 : w8.cell? ⟨gb, 4, none⟩ = some (.int .i64 x4) := (blk_cell BX.out 4).trans rfl; have hcx5 : w8.cell? ⟨gb, 5, none⟩ = some (.int .i64 x5) := (blk_cell BX.out 5).trans rfl; have hcx6 : w8.cell? ⟨gb, 6, none⟩ = some (.int .i64 x6) := (blk_cell BX.out 6).trans rfl; have hck0_0 : w8.cell? ⟨B0, 0, none⟩ = some (.int .i64 a0) := (blk_cell BK0'.out 0).trans rfl; clear hb hbox hgb))
  go_ret
  exact ⟨by first | rfl | (simp [*]; done) | (simp only [Bool.and_true]; simp; done), HB1.out⟩
set_option maxHeartbeats 4000000 in
set_option maxRecDepth 100000 in
theorem blast_Clear.ix (a0 : Int) (B0 : Nat) (A0 : Option Addr) (c0 : Nat) (l0 : List (S30)) (w : World) (hr0 : Kd.C k30 w A0 l0.length l0) (hk0 : w.heap[B0]? = some (.cells #[.int .i64 a0] 3 (0, 0))) (r : Int) (hR : blast_Clear.idx (blast_Clear.pr a0) 0 l0 = r) :
    Calls Try.prog 55 #[.slice A0 l0.length c0, .func (.func 56) #[] #[.pointer (some ⟨B0, 0, none⟩)]] w fun e w' => e = .returned (.int .i64 r) ∧ Below w.heap.size w w' := by
  have HR0 := Aside0.mk hr0
  have BK0 := Aside0.mk hk0
  have hm := HR0.out.2.1
  have HR := Aside0.mk hR
  clear hr0 hR hk0
  go_enter Try.func55, Try.ntmps55
  go_wp2
  go_loopw [8] (fun v wr => ∃ (k : Nat), k ≤ l0.length ∧ v = .int .i64 k ∧ Aside0 (blast_Clear.idx (blast_Clear.pr a0) k (l0.drop k) = r) ∧ Aside0 (Below w.heap.size w wr)) (fun v _ => l0.length - (intOf v).toNat)
  case atStart => exact ⟨0, Nat.zero_le _, rfl, ⟨by rw [List.drop_zero]; exact HR.out⟩, ⟨Below.refl _ _⟩⟩
  case round =>
    obtain ⟨k, hk, rfl, HG, HB⟩ := hrel
    clear HR
    by_cases hlt : k < l0.length
    · have hg := HG.out
      clear HG
      have hd : l0.drop k = rd_T30 l0 (k : Int) :: l0.drop (k + 1) := by
        rw [List.drop_eq_getElem_cons hlt]
        simp [rd_T30, hlt]
      rw [hd] at hg
      simp only [blast_Clear.idx] at hg
      clear hd
      obtain ⟨ad, e, hx0, hx1, hx2, hx3, hx4, hx5, hx6⟩ := at_T30 HR0.out (k : Int) (by omega) (by omega)
      cases e
      simp only [Int.toNat_natCast] at hx0 hx1 hx2 hx3 hx4 hx5 hx6
      replace hx0 := (HB.out.cell (World.block_lt_of_cell? w _ hx0)).trans hx0
      replace hx1 := (HB.out.cell (World.block_lt_of_cell? w _ hx1)).trans hx1
      replace hx2 := (HB.out.cell (World.block_lt_of_cell? w _ hx2)).trans hx2
      replace hx3 := (HB.out.cell (World.block_lt_of_cell? w _ hx3)).trans hx3
      replace hx4 := (HB.out.cell (World.block_lt_of_cell? w _ hx4)).trans hx4
      replace hx5 := (HB.out.cell (World.block_lt_of_cell? w _ hx5)).trans hx5
      replace hx6 := (HB.out.cell (World.block_lt_of_cell? w _ hx6)).trans hx6
      obtain ⟨x, hx⟩ : ∃ z, z = rd_T30 l0 (k : Int) := ⟨_, rfl⟩
      rw [← hx] at hx0 hx1 hx2 hx3 hx4 hx5 hx6 hg
      clear hx
      have HF := Aside0.mk (blast_Clear.fn a0 B0 x.f0 x.f1 x.f2 x.f3 x.f4 x.f5.f0 x.f5.f1 wr (blk_below BK0.out HB.out))
      obtain ⟨v, hv⟩ : ∃ z, z = blast_Clear.pr a0 x := ⟨_, rfl⟩
      have HV : Aside0 (Calls Try.prog 56 #[.agg #[.int .i64 x.f0, .int .i64 x.f1, .int .i64 x.f2, .int .i64 x.f3, .int .i64 x.f4, .int .i64 x.f5.f0, .int .i64 x.f5.f1], .pointer (some ⟨B0, 0, none⟩)] wr fun e w' => e = .returned (.bool v) ∧ Below wr.heap.size wr w') := ⟨by rw [hv]; exact HF.out⟩
      rw [← hv] at hg
      clear hv HF
      cases v with
      | true =>
        rw [if_pos rfl] at hg
        subst hg
        go_wp2_with (first | (go_at_call 56; refine HV.out.mono ?_; rintro e w9 ⟨rfl, hb⟩; have HB2 := Aside0.mk (below_then HB.out HB.out.size hb); clear hb))
        go_ret
        exact ⟨rfl, HB2.out⟩
      | false =>
        rw [if_neg (by simp)] at hg
        have HG := Aside0.mk hg
        clear hg
        go_wp2_with (first | (go_at_call 56; refine HV.out.mono ?_; rintro e w9 ⟨rfl, hb⟩; have HB2 := Aside0.mk (below_then HB.out HB.out.size hb); clear hb))
        exact ⟨⟨k + 1, by omega, by go_num, HG, HB2⟩, by simp [intOf]; omega⟩
    · have : l0.drop k = [] := List.drop_eq_nil_of_le (by omega)
      have hg := HG.out
      clear HG
      rw [this] at hg
      simp only [blast_Clear.idx] at hg
      subst hg
      clear this
      go_wp2
      go_ret
      exact ⟨rfl, HB.out⟩
theorem blast_Clear.idx_rng (p : S30 → Bool) (xs : List (S30)) : ∀ i, blast_Clear.idx p i xs = -1 ∨ ∃ j, j < xs.length ∧ blast_Clear.idx p i xs = ((i + j : Nat) : Int) := by
  induction xs with
  | nil => intro i; exact .inl rfl
  | cons x xs ih =>
    intro i
    simp only [blast_Clear.idx]
    split
    · exact .inr ⟨0, by simp, by simp⟩
    · rcases ih (i + 1) with h | ⟨j, hj, h⟩
      · exact .inl h
      · exact .inr ⟨j + 1, by simp; omega, by rw [h]; congr 1; omega⟩
def blast_Clear.to (st t : Int) (x : S30) : S30 := ⟨x.f0, x.f1, x.f2, st, t, x.f5⟩
def blast_Clear.chg (st t : Int) (cv : S30 → Int) (l : List (S30)) (i : Int) : List (S30) × Int := if i < 0 then ([], 8) else if t < (rd_T30 l i).f4 ∨ t > 20000000 then ([], 11) else if cv (rd_T30 l i) ≠ 0 then ([], cv (rd_T30 l i)) else (l.set i.toNat (blast_Clear.to st t (rd_T30 l i)), 0)
set_option maxHeartbeats 8000000 in
set_option maxRecDepth 100000 in
theorem blast_Clear.change (st : Int) (fn : FuncId) (by_ t : Int) (em : Bool) (cv : S30 → Int) (hcf : ∀ (ar : Array Value) (W : World), (callFunc fn ar).run Try.prog W = .ok (.enter fn ar) W) (HC : ∀ (x : S30) (W : World), Calls Try.prog fn #[.agg #[.int .i64 x.f0, .int .i64 x.f1, .int .i64 x.f2, .int .i64 x.f3, .int .i64 x.f4, .int .i64 x.f5.f0, .int .i64 x.f5.f1], .agg #[.int .i64 by_, .int .i64 t, .bool em]] W fun e w' => e = .returned (.int .i64 (cv x)) ∧ Below W.heap.size W w')
    (A0 : Option Addr) (c0 : Nat) (l0 : List (S30)) (id : Int) (w : World) (hr0 : Kd.C k30 w A0 l0.length l0) (hc0 : l0.length ≤ c0) (hlen : l0.length < 1000000000) (r1 : List (S30)) (r2 : Int) (h : blast_Clear.chg st t cv l0 (blast_Clear.idx (blast_Clear.pr id) 0 l0) = (r1, r2)) :
    Calls Try.prog 45 #[.slice A0 l0.length c0, .int .i64 id, .agg #[.int .i64 st, .func (.func fn) #[] #[]], .agg #[.int .i64 by_, .int .i64 t, .bool em]] w fun e w' => ∃ v0_ : Value, e = .returned (.tuple #[v0_, .int .i64 r2]) ∧ Kd.R k30 30 w' w.heap.size (fun _ => True) v0_ r1 ∧ Below w.heap.size w w' := by
  have hu1 := Try.underlying30
  have hu2 := Try.underlying65
  have hu3 := Try.underlying67
  have HR0 := Aside0.mk hr0
  have HC0 := Aside0.mk hc0
  have HCk := Aside0.mk HC
  have hm := HR0.out.2.1
  clear hr0 hc0 HC
  obtain ⟨q, hq⟩ : ∃ z, z = blast_Clear.idx (blast_Clear.pr id) 0 l0 := ⟨_, rfl⟩
  have hrng := blast_Clear.idx_rng (blast_Clear.pr id) l0 0
  rw [← hq] at h hrng
  have HQ := Aside0.mk hq.symm
  clear hq
  rcases hrng with hq | ⟨k, hk, hq⟩
  · subst hq
    simp only [blast_Clear.chg, show (-1 : Int) < 0 by omega, if_true, Prod.mk.injEq] at h
    obtain ⟨rfl, rfl⟩ := h
    go_enter Try.func45, Try.ntmps45
    go_wp2_with (first | ((with_reducible refine gate_dst (N := 5) rfl ?_); refine box_event ?hg (N := 5) ?hd (cs := #[.int .i64 id]) (t := 3) ?hr ?_; (case hd => rfl); (case hg => rfl); (case hr => first | (go_simp; done) | (go_simp; rfl)); intro gi hgb w8 hbox hb; have HB1 := Aside0.mk hb; have BI := Aside0.mk hbox; clear hb hbox hgb) | ((with_reducible refine gate_dst (N := 6) rfl ?_); refine box_event ?hg (N := 6) ?hd (cs := #[.int .i64 st, .func (.func fn) #[] #[]]) (t := 65) ?hr ?_; (case hd => rfl); (case hg => rfl); (case hr => first | (go_simp; done) | (go_simp; rfl)); intro gu hgb w8 hbox hb; have BI' := Aside0.mk (blk_below BI.out hb); have HB2 := Aside0.mk (below_then HB1.out HB1.out.size hb); have BU := Aside0.mk hbox; clear hb hbox hgb) | ((with_reducible refine gate_dst (N := 7) rfl ?_); refine box_event ?hg (N := 7) ?hd (cs := #[.int .i64 by_, .int .i64 t, .bool em]) (t := 67) ?hr ?_; (case hd => rfl); (case hg => rfl); (case hr => first | (go_simp; done) | (go_simp; rfl)); intro gc hgb w8 hbox hb; have BI'' := Aside0.mk (blk_below BI'.out hb); have BU' := Aside0.mk (blk_below BU.out hb); have HB3 := Aside0.mk (below_then HB2.out HB2.out.size hb); have BC := Aside0.mk hbox; clear hb hbox hgb) | (go_at_call 55; refine (blast_Clear.ix id gi _ _ l0 _ (Kd.C_below HR0.out HB3.out) BI''.out _ HQ.out).mono ?_; rintro e w9 ⟨rfl, hb⟩; have HB4 := Aside0.mk (below_then HB3.out HB3.out.size hb); have BU3 := Aside0.mk (blk_below BU'.out hb); have BC3 := Aside0.mk (blk_below BC.out hb); clear hb; have huw9_0 : w9.cell? ⟨gu, 0, none⟩ = some (.int .i64 st) := (blk_cell BU3.out 0).trans rfl; have huw9_1 : w9.cell? ⟨gu, 1, none⟩ = some (.func (.func fn) #[] #[]) := (blk_cell BU3.out 1).trans rfl; have hcw9_0 : w9.cell? ⟨gc, 0, none⟩ = some (.int .i64 by_) := (blk_cell BC3.out 0).trans rfl; have hcw9_1 : w9.cell? ⟨gc, 1, none⟩ = some (.int .i64 t) := (blk_cell BC3.out 1).trans rfl; have hcw9_2 : w9.cell? ⟨gc, 2, none⟩ = some (.bool em) := (blk_cell BC3.out 2).trans rfl))
    go_ret2
    exact ⟨_, rfl, Kd.R_nil _ _ _ _ _, HB4.out⟩
  · rw [Nat.zero_add] at hq
    subst hq
    have hn : ¬ ((k : Int) < 0) := by omega
    have hki : (k : Int) < (l0.length : Int) := by omega
    have hkn : (0 : Int) ≤ (k : Int) := by omega
    obtain ⟨ad, e, hx0, hx1, hx2, hx3, hx4, hx5, hx6⟩ := at_T30 HR0.out (k : Int) (by omega) (by omega)
    cases e
    simp only [Int.toNat_natCast] at hx0 hx1 hx2 hx3 hx4 hx5 hx6
    obtain ⟨x, hx⟩ : ∃ z, z = rd_T30 l0 (k : Int) := ⟨_, rfl⟩
    simp only [blast_Clear.chg, if_neg hn] at h
    rw [← hx] at hx0 hx1 hx2 hx3 hx4 hx5 hx6 h
    have HXX := Aside0.mk hx
    clear hx
    have HX0 := Aside0.mk hx0
    have HX1 := Aside0.mk hx1
    have HX2 := Aside0.mk hx2
    have HX3 := Aside0.mk hx3
    have HX4 := Aside0.mk hx4
    have HX5 := Aside0.mk hx5
    have HX6 := Aside0.mk hx6
    clear hx0 hx1 hx2 hx3 hx4 hx5 hx6
    by_cases h1 : t < x.f4
    · rw [if_pos (Or.inl h1)] at h
      have hd1 : decide (t < x.f4) = true := decide_eq_true h1
      obtain ⟨rfl, rfl⟩ := Prod.mk.inj h
      go_enter Try.func45, Try.ntmps45
      go_wp2_with (first | ((with_reducible refine gate_dst (N := 5) rfl ?_); refine box_event ?hg (N := 5) ?hd (cs := #[.int .i64 id]) (t := 3) ?hr ?_; (case hd => rfl); (case hg => rfl); (case hr => first | (go_simp; done) | (go_simp; rfl)); intro gi hgb w8 hbox hb; have HB1 := Aside0.mk hb; have BI := Aside0.mk hbox; clear hb hbox hgb) | ((with_reducible refine gate_dst (N := 6) rfl ?_); refine box_event ?hg (N := 6) ?hd (cs := #[.int .i64 st, .func (.func fn) #[] #[]]) (t := 65) ?hr ?_; (case hd => rfl); (case hg => rfl); (case hr => first | (go_simp; done) | (go_simp; rfl)); intro gu hgb w8 hbox hb; have BI' := Aside0.mk (blk_below BI.out hb); have HB2 := Aside0.mk (below_then HB1.out HB1.out.size hb); have BU := Aside0.mk hbox; clear hb hbox hgb) | ((with_reducible refine gate_dst (N := 7) rfl ?_); refine box_event ?hg (N := 7) ?hd (cs := #[.int .i64 by_, .int .i64 t, .bool em]) (t := 67) ?hr ?_; (case hd => rfl); (case hg => rfl); (case hr => first | (go_simp; done) | (go_simp; rfl)); intro gc hgb w8 hbox hb; have BI'' := Aside0.mk (blk_below BI'.out hb); have BU' := Aside0.mk (blk_below BU.out hb); have HB3 := Aside0.mk (below_then HB2.out HB2.out.size hb); have BC := Aside0.mk hbox; clear hb hbox hgb) | (go_at_call 55; refine (blast_Clear.ix id gi _ _ l0 _ (Kd.C_below HR0.out HB3.out) BI''.out _ HQ.out).mono ?_; rintro e w9 ⟨rfl, hb⟩; have HB4 := Aside0.mk (below_then HB3.out HB3.out.size hb); have BU3 := Aside0.mk (blk_below BU'.out hb); have BC3 := Aside0.mk (blk_below BC.out hb); clear hb; have huw9_0 : w9.cell? ⟨gu, 0, none⟩ = some (.int .i64 st) := (blk_cell BU3.out 0).trans rfl; have huw9_1 : w9.cell? ⟨gu, 1, none⟩ = some (.func (.func fn) #[] #[]) := (blk_cell BU3.out 1).trans rfl; have hcw9_0 : w9.cell? ⟨gc, 0, none⟩ = some (.int .i64 by_) := (blk_cell BC3.out 0).trans rfl; have hcw9_1 : w9.cell? ⟨gc, 1, none⟩ = some (.int .i64 t) := (blk_cell BC3.out 1).trans rfl; have hcw9_2 : w9.cell? ⟨gc, 2, none⟩ = some (.bool em) := (blk_cell BC3.out 2).trans rfl; have hyp0 := (HB4.out.cell (World.block_lt_of_cell? w _ HX0.out)).trans HX0.out; have hyp1 := (HB4.out.cell (World.block_lt_of_cell? w _ HX1.out)).trans HX1.out; have hyp2 := (HB4.out.cell (World.block_lt_of_cell? w _ HX2.out)).trans HX2.out; have hyp3 := (HB4.out.cell (World.block_lt_of_cell? w _ HX3.out)).trans HX3.out; have hyp4 := (HB4.out.cell (World.block_lt_of_cell? w _ HX4.out)).trans HX4.out; have hyp5 := (HB4.out.cell (World.block_lt_of_cell? w _ HX5.out)).trans HX5.out; have hyp6 := (HB4.out.cell (World.block_lt_of_cell? w _ HX6.out)).trans HX6.out; ))
      go_region
      all_goals
        go_wp2
        go_ret2
        exact ⟨_, rfl, Kd.R_nil _ _ _ _ _, by first | exact HB4.out | exact below_drew HB4.out⟩
    · by_cases h2 : t > 20000000
      · rw [if_pos (Or.inr h2)] at h
        have hd1 : decide (t < x.f4) = false := decide_eq_false h1
        have hd2 : decide (20000000 < t) = true := decide_eq_true h2
        obtain ⟨rfl, rfl⟩ := Prod.mk.inj h
        go_enter Try.func45, Try.ntmps45
        go_wp2_with (first | ((with_reducible refine gate_dst (N := 5) rfl ?_); refine box_event ?hg (N := 5) ?hd (cs := #[.int .i64 id]) (t := 3) ?hr ?_; (case hd => rfl); (case hg => rfl); (case hr => first | (go_simp; done) | (go_simp; rfl)); intro gi hgb w8 hbox hb; have HB1 := Aside0.mk hb; have BI := Aside0.mk hbox; clear hb hbox hgb) | ((with_reducible refine gate_dst (N := 6) rfl ?_); refine box_event ?hg (N := 6) ?hd (cs := #[.int .i64 st, .func (.func fn) #[] #[]]) (t := 65) ?hr ?_; (case hd => rfl); (case hg => rfl); (case hr => first | (go_simp; done) | (go_simp; rfl)); intro gu hgb w8 hbox hb; have BI' := Aside0.mk (blk_below BI.out hb); have HB2 := Aside0.mk (below_then HB1.out HB1.out.size hb); have BU := Aside0.mk hbox; clear hb hbox hgb) | ((with_reducible refine gate_dst (N := 7) rfl ?_); refine box_event ?hg (N := 7) ?hd (cs := #[.int .i64 by_, .int .i64 t, .bool em]) (t := 67) ?hr ?_; (case hd => rfl); (case hg => rfl); (case hr => first | (go_simp; done) | (go_simp; rfl)); intro gc hgb w8 hbox hb; have BI'' := Aside0.mk (blk_below BI'.out hb); have BU' := Aside0.mk (blk_below BU.out hb); have HB3 := Aside0.mk (below_then HB2.out HB2.out.size hb); have BC := Aside0.mk hbox; clear hb hbox hgb) | (go_at_call 55; refine (blast_Clear.ix id gi _ _ l0 _ (Kd.C_below HR0.out HB3.out) BI''.out _ HQ.out).mono ?_; rintro e w9 ⟨rfl, hb⟩; have HB4 := Aside0.mk (below_then HB3.out HB3.out.size hb); have BU3 := Aside0.mk (blk_below BU'.out hb); have BC3 := Aside0.mk (blk_below BC.out hb); clear hb; have huw9_0 : w9.cell? ⟨gu, 0, none⟩ = some (.int .i64 st) := (blk_cell BU3.out 0).trans rfl; have huw9_1 : w9.cell? ⟨gu, 1, none⟩ = some (.func (.func fn) #[] #[]) := (blk_cell BU3.out 1).trans rfl; have hcw9_0 : w9.cell? ⟨gc, 0, none⟩ = some (.int .i64 by_) := (blk_cell BC3.out 0).trans rfl; have hcw9_1 : w9.cell? ⟨gc, 1, none⟩ = some (.int .i64 t) := (blk_cell BC3.out 1).trans rfl; have hcw9_2 : w9.cell? ⟨gc, 2, none⟩ = some (.bool em) := (blk_cell BC3.out 2).trans rfl; have hyp0 := (HB4.out.cell (World.block_lt_of_cell? w _ HX0.out)).trans HX0.out; have hyp1 := (HB4.out.cell (World.block_lt_of_cell? w _ HX1.out)).trans HX1.out; have hyp2 := (HB4.out.cell (World.block_lt_of_cell? w _ HX2.out)).trans HX2.out; have hyp3 := (HB4.out.cell (World.block_lt_of_cell? w _ HX3.out)).trans HX3.out; have hyp4 := (HB4.out.cell (World.block_lt_of_cell? w _ HX4.out)).trans HX4.out; have hyp5 := (HB4.out.cell (World.block_lt_of_cell? w _ HX5.out)).trans HX5.out; have hyp6 := (HB4.out.cell (World.block_lt_of_cell? w _ HX6.out)).trans HX6.out; ))
        go_region
        all_goals
          go_wp2
          go_ret2
          exact ⟨_, rfl, Kd.R_nil _ _ _ _ _, by first | exact HB4.out | exact below_drew HB4.out⟩
      · rw [if_neg (fun hh => hh.elim h1 h2)] at h
        have hd1 : decide (t < x.f4) = false := decide_eq_false h1
        have hd2 : decide (20000000 < t) = false := decide_eq_false h2
        obtain ⟨v, hv⟩ : ∃ z, z = cv x := ⟨_, rfl⟩
        have HV : ∀ W, Calls Try.prog fn #[.agg #[.int .i64 x.f0, .int .i64 x.f1, .int .i64 x.f2, .int .i64 x.f3, .int .i64 x.f4, .int .i64 x.f5.f0, .int .i64 x.f5.f1], .agg #[.int .i64 by_, .int .i64 t, .bool em]] W fun e w' => e = .returned (.int .i64 v) ∧ Below W.heap.size W w' := fun W => by rw [hv]; exact HCk.out x W
        have HVk := Aside0.mk HV
        rw [← hv] at h
        clear hv HV HCk
        by_cases hv0 : v = 0
        · subst hv0
          rw [if_neg (by simp)] at h
          obtain ⟨rfl, rfl⟩ := Prod.mk.inj h
          go_enter Try.func45, Try.ntmps45
          go_wp2_with (first | ((with_reducible refine gate_dst (N := 5) rfl ?_); refine box_event ?hg (N := 5) ?hd (cs := #[.int .i64 id]) (t := 3) ?hr ?_; (case hd => rfl); (case hg => rfl); (case hr => first | (go_simp; done) | (go_simp; rfl)); intro gi hgb w8 hbox hb; have HB1 := Aside0.mk hb; have BI := Aside0.mk hbox; clear hb hbox hgb) | ((with_reducible refine gate_dst (N := 6) rfl ?_); refine box_event ?hg (N := 6) ?hd (cs := #[.int .i64 st, .func (.func fn) #[] #[]]) (t := 65) ?hr ?_; (case hd => rfl); (case hg => rfl); (case hr => first | (go_simp; done) | (go_simp; rfl)); intro gu hgb w8 hbox hb; have BI' := Aside0.mk (blk_below BI.out hb); have HB2 := Aside0.mk (below_then HB1.out HB1.out.size hb); have BU := Aside0.mk hbox; clear hb hbox hgb) | ((with_reducible refine gate_dst (N := 7) rfl ?_); refine box_event ?hg (N := 7) ?hd (cs := #[.int .i64 by_, .int .i64 t, .bool em]) (t := 67) ?hr ?_; (case hd => rfl); (case hg => rfl); (case hr => first | (go_simp; done) | (go_simp; rfl)); intro gc hgb w8 hbox hb; have BI'' := Aside0.mk (blk_below BI'.out hb); have BU' := Aside0.mk (blk_below BU.out hb); have HB3 := Aside0.mk (below_then HB2.out HB2.out.size hb); have BC := Aside0.mk hbox; clear hb hbox hgb) | (go_at_call 55; refine (blast_Clear.ix id gi _ _ l0 _ (Kd.C_below HR0.out HB3.out) BI''.out _ HQ.out).mono ?_; rintro e w9 ⟨rfl, hb⟩; have HB4 := Aside0.mk (below_then HB3.out HB3.out.size hb); have BU3 := Aside0.mk (blk_below BU'.out hb); have BC3 := Aside0.mk (blk_below BC.out hb); clear hb; have huw9_0 : w9.cell? ⟨gu, 0, none⟩ = some (.int .i64 st) := (blk_cell BU3.out 0).trans rfl; have huw9_1 : w9.cell? ⟨gu, 1, none⟩ = some (.func (.func fn) #[] #[]) := (blk_cell BU3.out 1).trans rfl; have hcw9_0 : w9.cell? ⟨gc, 0, none⟩ = some (.int .i64 by_) := (blk_cell BC3.out 0).trans rfl; have hcw9_1 : w9.cell? ⟨gc, 1, none⟩ = some (.int .i64 t) := (blk_cell BC3.out 1).trans rfl; have hcw9_2 : w9.cell? ⟨gc, 2, none⟩ = some (.bool em) := (blk_cell BC3.out 2).trans rfl; have hyp0 := (HB4.out.cell (World.block_lt_of_cell? w _ HX0.out)).trans HX0.out; have hyp1 := (HB4.out.cell (World.block_lt_of_cell? w _ HX1.out)).trans HX1.out; have hyp2 := (HB4.out.cell (World.block_lt_of_cell? w _ HX2.out)).trans HX2.out; have hyp3 := (HB4.out.cell (World.block_lt_of_cell? w _ HX3.out)).trans HX3.out; have hyp4 := (HB4.out.cell (World.block_lt_of_cell? w _ HX4.out)).trans HX4.out; have hyp5 := (HB4.out.cell (World.block_lt_of_cell? w _ HX5.out)).trans HX5.out; have hyp6 := (HB4.out.cell (World.block_lt_of_cell? w _ HX6.out)).trans HX6.out; ))
          go_region
          go_wp2
          go_region_with (refine (HVk.out _).mono ?_; rintro e w10 ⟨rfl, hb⟩; have HB5 := Aside0.mk (below_step (by repeat (first | exact HB4.out | apply below_drew)) hb); have BU4 := Aside0.mk (blk_below (g := gu) (o := .cells #[.int .i64 st, .func (.func fn) #[] #[]] 65 (0, 0)) (by repeat (first | exact BU3.out | refine bD_ ?_)) hb); have BC4 := Aside0.mk (blk_below (g := gc) (o := .cells #[.int .i64 by_, .int .i64 t, .bool em] 67 (0, 0)) (by repeat (first | exact BC3.out | refine bD_ ?_)) hb); clear hb)
          all_goals
            go_wp2_with (first | (go_at_call 44; refine (api_Mission.calls _ _ l0 l0 _ (Kd.C_below HR0.out HB5.out) HC0.out (by unfold api_Mission.f; rw [if_pos (by omega)])).mono ?_; rintro e w11 ⟨v0, rfl, ho, hb⟩; have HOb := Aside0.mk ho; have HB6 := Aside0.mk (below_then HB5.out HB5.out.size hb); have BU5 := Aside0.mk (blk_below BU4.out hb); have BC5 := Aside0.mk (blk_below BC4.out hb); have hszw := HB5.out.size; clear ho hb; have huw11_0 : w11.cell? ⟨gu, 0, none⟩ = some (.int .i64 st) := (blk_cell BU5.out 0).trans rfl; have huw11_1 : w11.cell? ⟨gu, 1, none⟩ = some (.func (.func fn) #[] #[]) := (blk_cell BU5.out 1).trans rfl; have hcw11_0 : w11.cell? ⟨gc, 0, none⟩ = some (.int .i64 by_) := (blk_cell BC5.out 0).trans rfl; have hcw11_1 : w11.cell? ⟨gc, 1, none⟩ = some (.int .i64 t) := (blk_cell BC5.out 1).trans rfl; have hcw11_2 : w11.cell? ⟨gc, 2, none⟩ = some (.bool em) := (blk_cell BC5.out 2).trans rfl; ))
            obtain ⟨g, cap, rfl, hbg, hgl, cells, hcell⟩ := Kd.R_form HOb.out (by omega)
            obtain ⟨ad2, e2, hz0, hz1, hz2, hz3, hz4, hz5, hz6⟩ := at_T30 (Kd.R_reads' HOb.out).2.2 (k : Int) (by omega) (by omega)
            obtain rfl : ad2 = ⟨g, 0, none⟩ := (Option.some.inj e2).symm
            clear e2
            rw [← HXX.out] at hz0 hz1 hz2 hz3 hz4 hz5 hz6
            simp only [Int.toNat_natCast, add_plain] at hz0 hz1 hz2 hz3 hz4 hz5 hz6
            have hzf3 : w11.frozen? ⟨g, k * 7 + 3, none⟩ = false := by simp [World.frozen?, hcell]
            have hzf4 : w11.frozen? ⟨g, k * 7 + 4, none⟩ = false := by simp [World.frozen?, hcell]
            have HZ : Aside0 (∀ (j : Nat) (u : Value), ([.int .i64 x.f0, .int .i64 x.f1, .int .i64 x.f2, .int .i64 x.f3, .int .i64 x.f4, .int .i64 x.f5.f0, .int .i64 x.f5.f1] : List Value)[j]? = some u → w11.cell? ⟨g, k * 7 + j, none⟩ = some u) := ⟨by
              intro j u hj
              rcases j with _ | _ | _ | _ | _ | _ | _ | j
              all_goals first | (cases hj; assumption) | (simp at hj)⟩
            have hcap : l0.length ≤ cap := (Kd.R_reads' HOb.out).2.1
            have HBG := Aside0.mk (Nat.le_trans hszw hbg)
            clear hbg hgl hcell
            go_region
            all_goals
              go_wp2
              go_ret2
              have hseg := Kd.R_seg (W := w11.drew) (Kd.rD_ HOb.out) (k : Int) (by omega) (by omega) (c := [.int .i64 x.f0, .int .i64 x.f1, .int .i64 x.f2, .int .i64 x.f3, .int .i64 x.f4, .int .i64 x.f5.f0, .int .i64 x.f5.f1]) (seg := [.int .i64 st, .int .i64 t]) (j := 3) rfl HZ.out (by show 3 + 2 ≤ 7; decide) (x' := blast_Clear.to st t x) (okp := fun _ => False) (k30_mkM _ _ _ (blast_Clear.to st t x)) (fun _ hk => hk.elim)
              exact ⟨_, rfl, Kd.R_mono (Kd.R_lower hseg.1 hszw) (fun _ _ => trivial), (below_drew HB6.out).grown hseg.2 HB6.out.size (fun j hj => by cases hj; exact HBG.out)⟩
        · rw [if_pos hv0] at h
          obtain ⟨rfl, rfl⟩ := Prod.mk.inj h
          have hb0 : (v != 0) = true := bne_iff_ne.mpr hv0
          have hb1 : (v == 0) = false := beq_eq_false_iff_ne.mpr hv0
          go_enter Try.func45, Try.ntmps45
          go_wp2_with (first | ((with_reducible refine gate_dst (N := 5) rfl ?_); refine box_event ?hg (N := 5) ?hd (cs := #[.int .i64 id]) (t := 3) ?hr ?_; (case hd => rfl); (case hg => rfl); (case hr => first | (go_simp; done) | (go_simp; rfl)); intro gi hgb w8 hbox hb; have HB1 := Aside0.mk hb; have BI := Aside0.mk hbox; clear hb hbox hgb) | ((with_reducible refine gate_dst (N := 6) rfl ?_); refine box_event ?hg (N := 6) ?hd (cs := #[.int .i64 st, .func (.func fn) #[] #[]]) (t := 65) ?hr ?_; (case hd => rfl); (case hg => rfl); (case hr => first | (go_simp; done) | (go_simp; rfl)); intro gu hgb w8 hbox hb; have BI' := Aside0.mk (blk_below BI.out hb); have HB2 := Aside0.mk (below_then HB1.out HB1.out.size hb); have BU := Aside0.mk hbox; clear hb hbox hgb) | ((with_reducible refine gate_dst (N := 7) rfl ?_); refine box_event ?hg (N := 7) ?hd (cs := #[.int .i64 by_, .int .i64 t, .bool em]) (t := 67) ?hr ?_; (case hd => rfl); (case hg => rfl); (case hr => first | (go_simp; done) | (go_simp; rfl)); intro gc hgb w8 hbox hb; have BI'' := Aside0.mk (blk_below BI'.out hb); have BU' := Aside0.mk (blk_below BU.out hb); have HB3 := Aside0.mk (below_then HB2.out HB2.out.size hb); have BC := Aside0.mk hbox; clear hb hbox hgb) | (go_at_call 55; refine (blast_Clear.ix id gi _ _ l0 _ (Kd.C_below HR0.out HB3.out) BI''.out _ HQ.out).mono ?_; rintro e w9 ⟨rfl, hb⟩; have HB4 := Aside0.mk (below_then HB3.out HB3.out.size hb); have BU3 := Aside0.mk (blk_below BU'.out hb); have BC3 := Aside0.mk (blk_below BC.out hb); clear hb; have huw9_0 : w9.cell? ⟨gu, 0, none⟩ = some (.int .i64 st) := (blk_cell BU3.out 0).trans rfl; have huw9_1 : w9.cell? ⟨gu, 1, none⟩ = some (.func (.func fn) #[] #[]) := (blk_cell BU3.out 1).trans rfl; have hcw9_0 : w9.cell? ⟨gc, 0, none⟩ = some (.int .i64 by_) := (blk_cell BC3.out 0).trans rfl; have hcw9_1 : w9.cell? ⟨gc, 1, none⟩ = some (.int .i64 t) := (blk_cell BC3.out 1).trans rfl; have hcw9_2 : w9.cell? ⟨gc, 2, none⟩ = some (.bool em) := (blk_cell BC3.out 2).trans rfl; have hyp0 := (HB4.out.cell (World.block_lt_of_cell? w _ HX0.out)).trans HX0.out; have hyp1 := (HB4.out.cell (World.block_lt_of_cell? w _ HX1.out)).trans HX1.out; have hyp2 := (HB4.out.cell (World.block_lt_of_cell? w _ HX2.out)).trans HX2.out; have hyp3 := (HB4.out.cell (World.block_lt_of_cell? w _ HX3.out)).trans HX3.out; have hyp4 := (HB4.out.cell (World.block_lt_of_cell? w _ HX4.out)).trans HX4.out; have hyp5 := (HB4.out.cell (World.block_lt_of_cell? w _ HX5.out)).trans HX5.out; have hyp6 := (HB4.out.cell (World.block_lt_of_cell? w _ HX6.out)).trans HX6.out; ))
          go_region
          go_wp2
          go_region_with (refine (HVk.out _).mono ?_; rintro e w10 ⟨rfl, hb⟩; have HB5 := Aside0.mk (below_step (by repeat (first | exact HB4.out | apply below_drew)) hb); have BU4 := Aside0.mk (blk_below (g := gu) (o := .cells #[.int .i64 st, .func (.func fn) #[] #[]] 65 (0, 0)) (by repeat (first | exact BU3.out | refine bD_ ?_)) hb); have BC4 := Aside0.mk (blk_below (g := gc) (o := .cells #[.int .i64 by_, .int .i64 t, .bool em] 67 (0, 0)) (by repeat (first | exact BC3.out | refine bD_ ?_)) hb); clear hb)
          all_goals
            go_wp2
            go_ret2
            exact ⟨_, rfl, Kd.R_nil _ _ _ _ _, by first | exact HB5.out | exact below_drew HB5.out⟩
theorem blast_Clear.tot (x : S30) (by_ t : Int) (em : Bool) : ∃ v, blast_clears.f x.f0 x.f1 x.f2 x.f3 x.f4 x.f5.f0 x.f5.f1 by_ t em = some v := by
  simp only [blast_clears.f, blast_windowed.f]
  repeat' split
  all_goals first | exact ⟨_, rfl⟩ | (simp only [Option.bind_some]; split <;> exact ⟨_, rfl⟩) | (refine ⟨_, ?_⟩; simp; done)
def blast_Clear.cv (by_ t : Int) (em : Bool) (x : S30) : Int := (blast_clears.f x.f0 x.f1 x.f2 x.f3 x.f4 x.f5.f0 x.f5.f1 by_ t em).getD 0
theorem blast_Clear.cv_eq (x : S30) (by_ t : Int) (em : Bool) : blast_clears.f x.f0 x.f1 x.f2 x.f3 x.f4 x.f5.f0 x.f5.f1 by_ t em = some (blast_Clear.cv by_ t em x) := by
  obtain ⟨v, hv⟩ := blast_Clear.tot x by_ t em
  unfold blast_Clear.cv
  rw [hv]
  rfl
theorem blast_Clear.check (by_ t : Int) (em : Bool) (x : S30) (W : World) : Calls Try.prog 46 #[.agg #[.int .i64 x.f0, .int .i64 x.f1, .int .i64 x.f2, .int .i64 x.f3, .int .i64 x.f4, .int .i64 x.f5.f0, .int .i64 x.f5.f1], .agg #[.int .i64 by_, .int .i64 t, .bool em]] W fun e w' => e = .returned (.int .i64 (blast_Clear.cv by_ t em x)) ∧ Below W.heap.size W w' := by
  refine (blast_clears.calls x.f0 x.f1 x.f2 x.f3 x.f4 x.f5.f0 x.f5.f1 by_ t em _ W (blast_Clear.cv_eq x by_ t em)).mono ?_
  rintro e w' ⟨rfl, hb⟩
  exact ⟨rfl, hb⟩
def blast_Clear.f (l0 : List (S30)) (a1 : Int) (a2 : Bool) (a3 : Int) : Option (List (S30) × Int) := if l0.length < 1000000000 then some (blast_Clear.chg 1 a3 (blast_Clear.cv 0 a3 a2) l0 (blast_Clear.idx (blast_Clear.pr a1) 0 l0)) else none
set_option maxHeartbeats 4000000 in
set_option maxRecDepth 100000 in
theorem blast_Clear.calls (A0 : Option Addr) (c0 : Nat) (l0 : List (S30)) (a1 : Int) (a2 : Bool) (a3 : Int) (r1 : List (S30)) (r2 : Int) (w : World) (hr0 : Kd.C k30 w A0 l0.length l0) (hc0 : l0.length ≤ c0) (h : blast_Clear.f l0 a1 a2 a3 = some (r1, r2)) :
    Calls Try.prog 17 #[.slice A0 l0.length c0, .int .i64 a1, .bool a2, .int .i64 a3] w fun e w' => ∃ v0_ : Value, e = .returned (.tuple #[v0_, .int .i64 r2]) ∧ Kd.R k30 30 w' w.heap.size (fun _ => True) v0_ r1 ∧ Below w.heap.size w w' := by
  unfold blast_Clear.f at h
  split at h
  · rename_i hlen
    have h' := Option.some.inj h
    have HX := Aside0.mk (blast_Clear.change 1 46 0 a3 a2 (blast_Clear.cv 0 a3 a2) (by intro ar W; go_simp) (blast_Clear.check 0 a3 a2) A0 c0 l0 a1 w hr0 hc0 hlen r1 r2 h')
    clear h h' hr0 hc0 hlen
    have hu2 := Try.underlying65
    have hu3 := Try.underlying67
    go_enter Try.func17, Try.ntmps17
    go_wp2_with (first | (go_at_call 45; refine HX.out.mono ?_; rintro e w9 ⟨v0, rfl, ho, hb⟩; have HO := Aside0.mk ho; have HB := Aside0.mk hb; clear ho hb))
    go_ret2
    exact ⟨_, rfl, HO.out, HB.out⟩
  · cases h

end Go.Proofs.Ytjlfaoaoinhebaa.A
