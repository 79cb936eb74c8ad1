-- PRINTED by print.py (a twelfth state) out of the translation. Not trusted: Lean checks it.
import Derived.Test.YtnnnjpkmdjkdjaaA0
namespace Go.Proofs.Ytnnnjpkmdjkdjaa.A
open Go.RowKit Go.Proofs.YtnnnjpkmdjkdjaaW.PrintWords Go.Proofs.YtnnnjpkmdjkdjaaW.PrintLast Go.Proofs.YtnnnjpkmdjkdjaaW.PrintMore
attribute [local go_sem] max2_int min2_int max_two min_two max_three min_three max_four min_four   -- for this text's walks alone
set_option linter.unusedVariables false
set_option linter.unusedSimpArgs false

-- by hand: closure.closed.tpl
def closure_closed.pr (a0 : Int) (a1 : Int) (x : S28) : Bool := x.f0 == a0 && x.f1 == a1
def closure_closed.idx (p : S28 → Bool) : Nat → List (S28) → Int
  | _, [] => -1
  | i, x :: xs => if p x = true then (i : Int) else closure_closed.idx p (i + 1) xs
def closure_closed.f (l0 : List (S28)) (a1 : Int) (a2 : Int) : Option (Bool) := some (decide (0 ≤ closure_closed.idx (closure_closed.pr a1 a2) 0 l0))
set_option maxHeartbeats 4000000 in
set_option maxRecDepth 100000 in
theorem closure_closed.fn (a0 : Int) (a1 : Int) (B0 : Nat) (B1 : Nat) (x0 : Int) (x1 : Int) (x2 : Int) (x3 : Int) (w : World) (hk0 : w.heap[B0]? = some (.cells #[.int .i64 a0] 3 (0, 0))) (hk1 : w.heap[B1]? = some (.cells #[.int .i64 a1] 3 (0, 0))) :
    Calls Try.prog 54 #[.agg #[.int .i64 x0, .int .i64 x1, .int .i64 x2, .int .i64 x3], .pointer (some ⟨B0, 0, none⟩), .pointer (some ⟨B1, 0, none⟩)] w fun e w' => e = .returned (.bool (x0 == a0 && x1 == a1)) ∧ Below w.heap.size w w' := by
  have hu := Try.underlying28
  have BK0 := Aside0.mk hk0
  have BK1 := Aside0.mk hk1
  clear hk0 hk1
  cases hsp0 : (x0 == a0)
  all_goals
    go_enter Try.func54, Try.ntmps54
    go_wp2_with (first | ((with_reducible refine gate_dst (N := 3) rfl ?_); refine box_event ?hg (N := 3) ?hd (cs := #[.int .i64 x0, .int .i64 x1, .int .i64 x2, .int .i64 x3]) (t := 28) ?hr ?_; (case hd => rfl); (case hg => rfl); (case hr => first | (go_simp; done) | (go_simp; rfl)); intro gb hgb w8 hbox hb; have BK0' := Aside0.mk (blk_below BK0.out hb); have BK1' := Aside0.mk (blk_below BK1.out hb); have HB1 := Aside0.mk hb; have BX := Aside0.mk hbox; have hcx0 : w8.cell? ⟨gb, 0, none⟩ = some (.int .i64 x0) := (blk_cell BX.out 0).trans rfl; have hcx1 : w8.cell? ⟨gb, 1, none⟩ = some (.int .i64 x1) := (blk_cell BX.out 1).trans rfl; have hcx2 : w8.cell? ⟨gb, 2, none⟩ = some (.int .i64 x2) := (blk_cell BX.out 2).trans rfl; have hcx3 : w8.cell? ⟨gb, 3, none⟩ = some (.int .i64 x3) := (blk_cell BX.out 3).trans rfl; have hck0_0 : w8.cell? ⟨B0, 0, none⟩ = some (.int .i64 a0) := (blk_cell BK0'.out 0).trans rfl; have hck1_0 : w8.cell? ⟨B1, 0, none⟩ = some (.int .i64 a1) := (blk_cell BK1'.out 0).trans rfl; clear hb hbox hgb))
    go_ret
    exact ⟨by first | rfl | (simp [*]; done) | (simp only [hsp0]; simp; done), HB1.out⟩
set_option maxHeartbeats 4000000 in
set_option maxRecDepth 100000 in
theorem closure_closed.ix (a0 : Int) (a1 : Int) (B0 : Nat) (B1 : Nat) (A0 : Option Addr) (c0 : Nat) (l0 : List (S28)) (w : World) (hr0 : Kd.C k28 w A0 l0.length l0) (hk0 : w.heap[B0]? = some (.cells #[.int .i64 a0] 3 (0, 0))) (hk1 : w.heap[B1]? = some (.cells #[.int .i64 a1] 3 (0, 0))) (r : Int) (hR : closure_closed.idx (closure_closed.pr a0 a1) 0 l0 = r) :
    Calls Try.prog 43 #[.slice A0 l0.length c0, .func (.func 54) #[] #[.pointer (some ⟨B0, 0, none⟩), .pointer (some ⟨B1, 0, none⟩)]] w fun e w' => e = .returned (.int .i64 r) ∧ Below w.heap.size w w' := by
  have HR0 := Aside0.mk hr0
  have BK0 := Aside0.mk hk0
  have BK1 := Aside0.mk hk1
  have hm := HR0.out.2.1
  have HR := Aside0.mk hR
  clear hr0 hR hk0 hk1
  go_enter Try.func43, Try.ntmps43
  go_wp2
  go_loopw [8] (fun v wr => ∃ (k : Nat), k ≤ l0.length ∧ v = .int .i64 k ∧ Aside0 (closure_closed.idx (closure_closed.pr a0 a1) k (l0.drop k) = r) ∧ Aside0 (Below w.heap.size w wr)) (fun v _ => l0.length - (intOf v).toNat)
  case atStart => exact ⟨0, Nat.zero_le _, rfl, ⟨by rw [List.drop_zero]; exact HR.out⟩, ⟨Below.refl _ _⟩⟩
  case round =>
    obtain ⟨k, hk, rfl, HG, HB⟩ := hrel
    clear HR
    by_cases hlt : k < l0.length
    · have hg := HG.out
      clear HG
      have hd : l0.drop k = rd_T28 l0 (k : Int) :: l0.drop (k + 1) := by
        rw [List.drop_eq_getElem_cons hlt]
        simp [rd_T28, hlt]
      rw [hd] at hg
      simp only [closure_closed.idx] at hg
      clear hd
      obtain ⟨ad, e, hx0, hx1, hx2, hx3⟩ := at_T28 HR0.out (k : Int) (by omega) (by omega)
      cases e
      simp only [Int.toNat_natCast] at hx0 hx1 hx2 hx3
      replace hx0 := (HB.out.cell (World.block_lt_of_cell? w _ hx0)).trans hx0
      replace hx1 := (HB.out.cell (World.block_lt_of_cell? w _ hx1)).trans hx1
      replace hx2 := (HB.out.cell (World.block_lt_of_cell? w _ hx2)).trans hx2
      replace hx3 := (HB.out.cell (World.block_lt_of_cell? w _ hx3)).trans hx3
      obtain ⟨x, hx⟩ : ∃ z, z = rd_T28 l0 (k : Int) := ⟨_, rfl⟩
      rw [← hx] at hx0 hx1 hx2 hx3 hg
      clear hx
      have HF := Aside0.mk (closure_closed.fn a0 a1 B0 B1 x.f0 x.f1 x.f2 x.f3 wr (blk_below BK0.out HB.out) (blk_below BK1.out HB.out))
      obtain ⟨v, hv⟩ : ∃ z, z = closure_closed.pr a0 a1 x := ⟨_, rfl⟩
      have HV : Aside0 (Calls Try.prog 54 #[.agg #[.int .i64 x.f0, .int .i64 x.f1, .int .i64 x.f2, .int .i64 x.f3], .pointer (some ⟨B0, 0, none⟩), .pointer (some ⟨B1, 0, none⟩)] wr fun e w' => e = .returned (.bool v) ∧ Below wr.heap.size wr w') := ⟨by rw [hv]; exact HF.out⟩
      rw [← hv] at hg
      clear hv HF
      cases v with
      | true =>
        rw [if_pos rfl] at hg
        subst hg
        go_wp2_with (first | (go_at_call 54; refine HV.out.mono ?_; rintro e w9 ⟨rfl, hb⟩; have HB2 := Aside0.mk (below_then HB.out HB.out.size hb); clear hb))
        go_ret
        exact ⟨rfl, HB2.out⟩
      | false =>
        rw [if_neg (by simp)] at hg
        have HG := Aside0.mk hg
        clear hg
        go_wp2_with (first | (go_at_call 54; refine HV.out.mono ?_; rintro e w9 ⟨rfl, hb⟩; have HB2 := Aside0.mk (below_then HB.out HB.out.size hb); clear hb))
        exact ⟨⟨k + 1, by omega, by go_num, HG, HB2⟩, by simp [intOf]; omega⟩
    · have : l0.drop k = [] := List.drop_eq_nil_of_le (by omega)
      have hg := HG.out
      clear HG
      rw [this] at hg
      simp only [closure_closed.idx] at hg
      subst hg
      clear this
      go_wp2
      go_ret
      exact ⟨rfl, HB.out⟩
set_option maxHeartbeats 4000000 in
set_option maxRecDepth 100000 in
theorem closure_closed.has (a0 : Int) (a1 : Int) (B0 : Nat) (B1 : Nat) (A0 : Option Addr) (c0 : Nat) (l0 : List (S28)) (w : World) (hr0 : Kd.C k28 w A0 l0.length l0) (hk0 : w.heap[B0]? = some (.cells #[.int .i64 a0] 3 (0, 0))) (hk1 : w.heap[B1]? = some (.cells #[.int .i64 a1] 3 (0, 0))) (r : Int) (hR : closure_closed.idx (closure_closed.pr a0 a1) 0 l0 = r) :
    Calls Try.prog 53 #[.slice A0 l0.length c0, .func (.func 54) #[] #[.pointer (some ⟨B0, 0, none⟩), .pointer (some ⟨B1, 0, none⟩)]] w fun e w' => e = .returned (.bool (decide (0 ≤ r))) ∧ Below w.heap.size w w' := by
  have HX := Aside0.mk (closure_closed.ix a0 a1 B0 B1 A0 c0 l0 w hr0 hk0 hk1 r hR)
  clear hr0 hR hk0 hk1
  go_enter Try.func53, Try.ntmps53
  go_wp2_with (first | (go_at_call 43; refine HX.out.mono ?_; rintro e w9 ⟨rfl, hb⟩; have HB2 := Aside0.mk hb; clear hb))
  go_ret
  exact ⟨by first | rfl | simp, HB2.out⟩
set_option maxHeartbeats 4000000 in
set_option maxRecDepth 100000 in
theorem closure_closed.calls (A0 : Option Addr) (c0 : Nat) (l0 : List (S28)) (a1 : Int) (a2 : Int) (r : Bool) (w : World) (hr0 : Kd.C k28 w A0 l0.length l0) (hc0 : l0.length ≤ c0) (h : closure_closed.f l0 a1 a2 = some r) :
    Calls Try.prog 41 #[.slice A0 l0.length c0, .int .i64 a1, .int .i64 a2] w fun e w' => e = .returned (.bool r) ∧ Below w.heap.size w w' := by
  obtain rfl := Option.some.inj h
  clear h
  have HR0 := Aside0.mk hr0
  clear hr0 hc0
  go_enter Try.func41, Try.ntmps41
  go_wp2_with (first | ((with_reducible refine gate_dst (N := 4) rfl ?_); refine box_event ?hg (N := 4) ?hd (cs := #[.int .i64 a1]) (t := 3) ?hr ?_; (case hd => rfl); (case hg => rfl); (case hr => first | (go_simp; done) | (go_simp; rfl)); intro gb hgb w8 hbox hb; have HB1 := Aside0.mk hb; have BX := Aside0.mk hbox; clear hb hbox hgb) | ((with_reducible refine gate_dst (N := 5) rfl ?_); refine box_event ?hg (N := 5) ?hd (cs := #[.int .i64 a2]) (t := 3) ?hr ?_; (case hd => rfl); (case hg => rfl); (case hr => first | (go_simp; done) | (go_simp; rfl)); intro gb2 hgb w8 hbox hb; have HB2 := Aside0.mk hb; have BX2 := Aside0.mk hbox; clear hb hbox hgb) | (go_at_call 53; refine (closure_closed.has a1 a2 gb gb2 _ _ l0 _ (Kd.C_below (Kd.C_below HR0.out HB1.out) HB2.out) (blk_below BX.out HB2.out) BX2.out _ rfl).mono ?_; rintro e w9 ⟨rfl, hb⟩; have HB3 := Aside0.mk (below_then (below_then HB1.out HB1.out.size HB2.out) (below_then HB1.out HB1.out.size HB2.out).size hb); clear hb))
  go_ret
  exact ⟨rfl, HB3.out⟩

end Go.Proofs.Ytnnnjpkmdjkdjaa.A
