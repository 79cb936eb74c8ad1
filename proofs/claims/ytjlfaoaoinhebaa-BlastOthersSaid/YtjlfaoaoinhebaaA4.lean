-- PRINTED by print.py (a twelfth state) out of the translation. Not trusted: Lean checks it.
import Derived.Test.YtjlfaoaoinhebaaA0
import Derived.Test.YtjlfaoaoinhebaaA3
namespace Go.Proofs.Ytjlfaoaoinhebaa.A
open Go.RowKit Go.Proofs.YtjlfaoaoinhebaaW.PrintWords Go.Proofs.YtjlfaoaoinhebaaW.PrintLast Go.Proofs.YtjlfaoaoinhebaaW.PrintMore
attribute [local go_sem] max2_int min2_int max_two min_two max_three min_three max_four min_four   -- for this text's walks alone
set_option linter.unusedVariables false
set_option linter.unusedSimpArgs false

-- by hand: blast.Right.tpl
def blast_Right.ov (a : Int) : Bool := decide (0 ≤ a) && decide (a ≤ 4)
theorem blast_Right.open_eq (a0 a1 a2 a3 a4 a5 a6 : Int) : blast_open.f a0 a1 a2 a3 a4 a5 a6 = some (blast_Right.ov a3) := by
  unfold blast_open.f blast_Right.ov
  by_cases h : a3 ≥ 0
  · rw [if_pos h, decide_eq_true h, Bool.true_and]
  · rw [if_neg h, decide_eq_false h, Bool.false_and]
def blast_Right.fv (x : S30) : Bool := (blast_fields.f 8 x.f0 x.f1 x.f2 x.f3 x.f4 x.f5.f0 x.f5.f1).getD false
theorem blast_Right.fields_eq (x : S30) : blast_fields.f 8 x.f0 x.f1 x.f2 x.f3 x.f4 x.f5.f0 x.f5.f1 = some (blast_Right.fv x) := by
  have h : (blast_fields.f 8 x.f0 x.f1 x.f2 x.f3 x.f4 x.f5.f0 x.f5.f1).isSome = true := by
    have w1 : wrap64 (0 + 1) = 1 := by decide +kernel
    have w2 : wrap64 (1 + 1) = 2 := by decide +kernel
    have w3 : wrap64 (2 + 1) = 3 := by decide +kernel
    simp only [blast_fields.f, blast_fields.l0, Option.bind_some, List.length_cons, List.length_nil, w1, w2, w3]
    simp
    simp only [apply_ite Option.isSome, Option.isSome_some, ite_self]
  obtain ⟨v, hv⟩ := Option.isSome_iff_exists.1 h
  unfold blast_Right.fv
  rw [hv]
  rfl
def blast_Right.pr (a0 : Int) (a1 : Int) (a2 : Int) (a3 : Int) (a4 : Int) (a5 : Int) (a6 : Int) (x : S30) : Bool := x.f0 == a0
def blast_Right.idx (p : S30 → Bool) : Nat → List (S30) → Int
  | _, [] => -1
  | i, x :: xs => if p x = true then (i : Int) else blast_Right.idx p (i + 1) xs
def blast_Right.prb (a0 : Int) (a1 : Int) (a2 : Int) (a3 : Int) (a4 : Int) (a5 : Int) (a6 : Int) (x : S30) : Bool := blast_Right.ov x.f3 && x.f1 == a1
def blast_Right.at (l : List (S30)) (i : Nat) (m : S30) : Option Int := if blast_Right.fv m = true then (if 0 ≤ blast_Right.idx (blast_Right.pr m.f0 m.f1 m.f2 m.f3 m.f4 m.f5.f0 m.f5.f1) 0 (l.take i) then some 7 else if blast_Right.ov m.f3 = true ∧ 0 ≤ blast_Right.idx (blast_Right.prb m.f0 m.f1 m.f2 m.f3 m.f4 m.f5.f0 m.f5.f1) 0 (l.take i) then some 15 else none) else some 2
def blast_Right.go (l : List (S30)) : Nat → Nat → Int
  | 0, _ => 0
  | d + 1, i => match blast_Right.at l i (rd_T30 l (i : Int)) with
    | some e => e
    | none => blast_Right.go l d (i + 1)
def blast_Right.f (l0 : List (S30)) : Option (Int) := some (if 64 < l0.length then 4 else blast_Right.go l0 l0.length 0)
set_option maxHeartbeats 4000000 in
set_option maxRecDepth 100000 in
theorem blast_Right.fn (a0 : Int) (a1 : Int) (a2 : Int) (a3 : Int) (a4 : Int) (a5 : Int) (a6 : Int) (B0 : Nat) (x0 : Int) (x1 : Int) (x2 : Int) (x3 : Int) (x4 : Int) (x5 : Int) (x6 : Int) (w : World) (hk0 : w.heap[B0]? = some (.cells #[.int .i64 a0, .int .i64 a1, .int .i64 a2, .int .i64 a3, .int .i64 a4, .int .i64 a5, .int .i64 a6] 30 (0, 0))) :
    Calls Try.prog 37 #[.agg #[.int .i64 x0, .int .i64 x1, .int .i64 x2, .int .i64 x3, .int .i64 x4, .int .i64 x5, .int .i64 x6], .pointer (some ⟨B0, 0, none⟩)] w fun e w' => e = .returned (.bool (x0 == a0)) ∧ Below w.heap.size w w' := by
  have hu := Try.underlying30
  have BK0 := Aside0.mk hk0
  clear hk0
  go_enter Try.func37, Try.ntmps37
  go_wp2_with (first | ((with_reducible refine gate_dst (N := 2) rfl ?_); refine box_event ?hg (N := 2) ?hd (cs := #[.int .i64 x0, .int .i64 x1, .int .i64 x2, .int .i64 x3, .int .i64 x4, .int .i64 x5, .int .i64 x6]) (t := 30) ?hr ?_; (case hd => rfl); (case hg => rfl); (case hr => first | (go_simp; done) | (go_simp; rfl)); intro gb hgb w8 hbox hb; have BK0' := Aside0.mk (blk_below BK0.out hb); have HB1 := Aside0.mk hb; have BX := Aside0.mk hbox; have hcx0 : w8.cell? ⟨gb, 0, none⟩ = some (.int .i64 x0) := (blk_cell BX.out 0).trans rfl; have hcx1 : w8.cell? ⟨gb, 1, none⟩ = some (.int .i64 x1) := (blk_cell BX.out 1).trans rfl; have hcx2 : w8.cell? ⟨gb, 2, none⟩ = some (.int .i64 x2) := (blk_cell BX.out 2).trans rfl; have hcx3 : w8.cell? ⟨gb, 3, none⟩ = some (.int .i64 x3) := (blk_cell BX.out 3).trans rfl; have hcx4 : w8.cell? ⟨gb, 4, none⟩ = some (.int .i64 x4) := (blk_cell BX.out 4).trans rfl; have hcx5 : w8.cell? ⟨gb, 5, none⟩ = some (.int .i64 x5) := (blk_cell BX.out 5).trans rfl; have hcx6 : w8.cell? ⟨gb, 6, none⟩ = some (.int .i64 x6) := (blk_cell BX.out 6).trans rfl; have hck0_0 : w8.cell? ⟨B0, 0, none⟩ = some (.int .i64 a0) := (blk_cell BK0'.out 0).trans rfl; have hck0_1 : w8.cell? ⟨B0, 1, none⟩ = some (.int .i64 a1) := (blk_cell BK0'.out 1).trans rfl; have hck0_2 : w8.cell? ⟨B0, 2, none⟩ = some (.int .i64 a2) := (blk_cell BK0'.out 2).trans rfl; have hck0_3 : w8.cell? ⟨B0, 3, none⟩ = some (.int .i64 a3) := (blk_cell BK0'.out 3).trans rfl; have hck0_4 : w8.cell? ⟨B0, 4, none⟩ = some (.int .i64 a4) := (blk_cell BK0'.out 4).trans rfl; have hck0_5 : w8.cell? ⟨B0, 5, none⟩ = some (.int .i64 a5) := (blk_cell BK0'.out 5).trans rfl; have hck0_6 : w8.cell? ⟨B0, 6, none⟩ = some (.int .i64 a6) := (blk_cell BK0'.out 6).trans rfl; clear hb hbox hgb))
  go_ret
  exact ⟨by first | rfl | (simp [*]; done) | (simp only [Bool.and_true]; simp; done), HB1.out⟩
set_option maxHeartbeats 4000000 in
set_option maxRecDepth 100000 in
theorem blast_Right.ix (a0 : Int) (a1 : Int) (a2 : Int) (a3 : Int) (a4 : Int) (a5 : Int) (a6 : Int) (B0 : Nat) (A0 : Option Addr) (c0 : Nat) (l0 : List (S30)) (w : World) (hr0 : Kd.C k30 w A0 l0.length l0) (hk0 : w.heap[B0]? = some (.cells #[.int .i64 a0, .int .i64 a1, .int .i64 a2, .int .i64 a3, .int .i64 a4, .int .i64 a5, .int .i64 a6] 30 (0, 0))) (r : Int) (hR : blast_Right.idx (blast_Right.pr a0 a1 a2 a3 a4 a5 a6) 0 l0 = r) :
    Calls Try.prog 55 #[.slice A0 l0.length c0, .func (.func 37) #[] #[.pointer (some ⟨B0, 0, none⟩)]] w fun e w' => e = .returned (.int .i64 r) ∧ Below w.heap.size w w' := by
  have HR0 := Aside0.mk hr0
  have BK0 := Aside0.mk hk0
  have hm := HR0.out.2.1
  have HR := Aside0.mk hR
  clear hr0 hR hk0
  go_enter Try.func55, Try.ntmps55
  go_wp2
  go_loopw [8] (fun v wr => ∃ (k : Nat), k ≤ l0.length ∧ v = .int .i64 k ∧ Aside0 (blast_Right.idx (blast_Right.pr a0 a1 a2 a3 a4 a5 a6) k (l0.drop k) = r) ∧ Aside0 (Below w.heap.size w wr)) (fun v _ => l0.length - (intOf v).toNat)
  case atStart => exact ⟨0, Nat.zero_le _, rfl, ⟨by rw [List.drop_zero]; exact HR.out⟩, ⟨Below.refl _ _⟩⟩
  case round =>
    obtain ⟨k, hk, rfl, HG, HB⟩ := hrel
    clear HR
    by_cases hlt : k < l0.length
    · have hg := HG.out
      clear HG
      have hd : l0.drop k = rd_T30 l0 (k : Int) :: l0.drop (k + 1) := by
        rw [List.drop_eq_getElem_cons hlt]
        simp [rd_T30, hlt]
      rw [hd] at hg
      simp only [blast_Right.idx] at hg
      clear hd
      obtain ⟨ad, e, hx0, hx1, hx2, hx3, hx4, hx5, hx6⟩ := at_T30 HR0.out (k : Int) (by omega) (by omega)
      cases e
      simp only [Int.toNat_natCast] at hx0 hx1 hx2 hx3 hx4 hx5 hx6
      replace hx0 := (HB.out.cell (World.block_lt_of_cell? w _ hx0)).trans hx0
      replace hx1 := (HB.out.cell (World.block_lt_of_cell? w _ hx1)).trans hx1
      replace hx2 := (HB.out.cell (World.block_lt_of_cell? w _ hx2)).trans hx2
      replace hx3 := (HB.out.cell (World.block_lt_of_cell? w _ hx3)).trans hx3
      replace hx4 := (HB.out.cell (World.block_lt_of_cell? w _ hx4)).trans hx4
      replace hx5 := (HB.out.cell (World.block_lt_of_cell? w _ hx5)).trans hx5
      replace hx6 := (HB.out.cell (World.block_lt_of_cell? w _ hx6)).trans hx6
      obtain ⟨x, hx⟩ : ∃ z, z = rd_T30 l0 (k : Int) := ⟨_, rfl⟩
      rw [← hx] at hx0 hx1 hx2 hx3 hx4 hx5 hx6 hg
      clear hx
      have HF := Aside0.mk (blast_Right.fn a0 a1 a2 a3 a4 a5 a6 B0 x.f0 x.f1 x.f2 x.f3 x.f4 x.f5.f0 x.f5.f1 wr (blk_below BK0.out HB.out))
      obtain ⟨v, hv⟩ : ∃ z, z = blast_Right.pr a0 a1 a2 a3 a4 a5 a6 x := ⟨_, rfl⟩
      have HV : Aside0 (Calls Try.prog 37 #[.agg #[.int .i64 x.f0, .int .i64 x.f1, .int .i64 x.f2, .int .i64 x.f3, .int .i64 x.f4, .int .i64 x.f5.f0, .int .i64 x.f5.f1], .pointer (some ⟨B0, 0, none⟩)] wr fun e w' => e = .returned (.bool v) ∧ Below wr.heap.size wr w') := ⟨by rw [hv]; exact HF.out⟩
      rw [← hv] at hg
      clear hv HF
      cases v with
      | true =>
        rw [if_pos rfl] at hg
        subst hg
        go_wp2_with (first | (go_at_call 37; refine HV.out.mono ?_; rintro e w9 ⟨rfl, hb⟩; have HB2 := Aside0.mk (below_then HB.out HB.out.size hb); clear hb))
        go_ret
        exact ⟨rfl, HB2.out⟩
      | false =>
        rw [if_neg (by simp)] at hg
        have HG := Aside0.mk hg
        clear hg
        go_wp2_with (first | (go_at_call 37; refine HV.out.mono ?_; rintro e w9 ⟨rfl, hb⟩; have HB2 := Aside0.mk (below_then HB.out HB.out.size hb); clear hb))
        exact ⟨⟨k + 1, by omega, by go_num, HG, HB2⟩, by simp [intOf]; omega⟩
    · have : l0.drop k = [] := List.drop_eq_nil_of_le (by omega)
      have hg := HG.out
      clear HG
      rw [this] at hg
      simp only [blast_Right.idx] at hg
      subst hg
      clear this
      go_wp2
      go_ret
      exact ⟨rfl, HB.out⟩
set_option maxHeartbeats 4000000 in
set_option maxRecDepth 100000 in
theorem blast_Right.has (a0 : Int) (a1 : Int) (a2 : Int) (a3 : Int) (a4 : Int) (a5 : Int) (a6 : Int) (B0 : Nat) (A0 : Option Addr) (c0 : Nat) (l0 : List (S30)) (w : World) (hr0 : Kd.C k30 w A0 l0.length l0) (hk0 : w.heap[B0]? = some (.cells #[.int .i64 a0, .int .i64 a1, .int .i64 a2, .int .i64 a3, .int .i64 a4, .int .i64 a5, .int .i64 a6] 30 (0, 0))) (r : Int) (hR : blast_Right.idx (blast_Right.pr a0 a1 a2 a3 a4 a5 a6) 0 l0 = r) :
    Calls Try.prog 36 #[.slice A0 l0.length c0, .func (.func 37) #[] #[.pointer (some ⟨B0, 0, none⟩)]] w fun e w' => e = .returned (.bool (decide (0 ≤ r))) ∧ Below w.heap.size w w' := by
  have HX := Aside0.mk (blast_Right.ix a0 a1 a2 a3 a4 a5 a6 B0 A0 c0 l0 w hr0 hk0 r hR)
  clear hr0 hR hk0
  go_enter Try.func36, Try.ntmps36
  go_wp2_with (first | (go_at_call 55; refine HX.out.mono ?_; rintro e w9 ⟨rfl, hb⟩; have HB2 := Aside0.mk hb; clear hb))
  go_ret
  exact ⟨by first | rfl | simp, HB2.out⟩
set_option maxHeartbeats 4000000 in
set_option maxRecDepth 100000 in
theorem blast_Right.fnb (a0 : Int) (a1 : Int) (a2 : Int) (a3 : Int) (a4 : Int) (a5 : Int) (a6 : Int) (B0 : Nat) (x0 : Int) (x1 : Int) (x2 : Int) (x3 : Int) (x4 : Int) (x5 : Int) (x6 : Int) (w : World) (hk0 : w.heap[B0]? = some (.cells #[.int .i64 a0, .int .i64 a1, .int .i64 a2, .int .i64 a3, .int .i64 a4, .int .i64 a5, .int .i64 a6] 30 (0, 0))) :
    Calls Try.prog 39 #[.agg #[.int .i64 x0, .int .i64 x1, .int .i64 x2, .int .i64 x3, .int .i64 x4, .int .i64 x5, .int .i64 x6], .pointer (some ⟨B0, 0, none⟩)] w fun e w' => e = .returned (.bool (blast_Right.ov x3 && x1 == a1)) ∧ Below w.heap.size w w' := by
  have hu := Try.underlying30
  have BK0 := Aside0.mk hk0
  clear hk0
  have HO := Aside0.mk (blast_Right.open_eq x0 x1 x2 x3 x4 x5 x6)
  obtain ⟨v, hv⟩ : ∃ z, z = blast_Right.ov x3 := ⟨_, rfl⟩
  rw [← hv] at HO ⊢
  clear hv
  cases v
  all_goals
    go_enter Try.func39, Try.ntmps39
    go_wp2_with (first | ((with_reducible refine gate_dst (N := 2) rfl ?_); refine box_event ?hg (N := 2) ?hd (cs := #[.int .i64 x0, .int .i64 x1, .int .i64 x2, .int .i64 x3, .int .i64 x4, .int .i64 x5, .int .i64 x6]) (t := 30) ?hr ?_; (case hd => rfl); (case hg => rfl); (case hr => first | (go_simp; done) | (go_simp; rfl)); intro gb hgb w8 hbox hb; have BK0' := Aside0.mk (blk_below BK0.out hb); have HB1 := Aside0.mk hb; have BX := Aside0.mk hbox; have hcx0 : w8.cell? ⟨gb, 0, none⟩ = some (.int .i64 x0) := (blk_cell BX.out 0).trans rfl; have hcx1 : w8.cell? ⟨gb, 1, none⟩ = some (.int .i64 x1) := (blk_cell BX.out 1).trans rfl; have hcx2 : w8.cell? ⟨gb, 2, none⟩ = some (.int .i64 x2) := (blk_cell BX.out 2).trans rfl; have hcx3 : w8.cell? ⟨gb, 3, none⟩ = some (.int .i64 x3) := (blk_cell BX.out 3).trans rfl; have hcx4 : w8.cell? ⟨gb, 4, none⟩ = some (.int .i64 x4) := (blk_cell BX.out 4).trans rfl; have hcx5 : w8.cell? ⟨gb, 5, none⟩ = some (.int .i64 x5) := (blk_cell BX.out 5).trans rfl; have hcx6 : w8.cell? ⟨gb, 6, none⟩ = some (.int .i64 x6) := (blk_cell BX.out 6).trans rfl; clear hb hbox hgb) | (go_at_call 38; refine (blast_open.calls _ _ _ _ _ _ _ _ _ HO.out).mono ?_; rintro e w9 ⟨rfl, hb⟩; have HB2 := Aside0.mk (below_then HB1.out HB1.out.size hb); have BX2 := Aside0.mk (blk_below BX.out hb); have BK2 := Aside0.mk (blk_below BK0'.out hb); have hcz1 : w9.cell? ⟨gb, 1, none⟩ = some (.int .i64 x1) := (blk_cell BX2.out 1).trans rfl; have hck1 : w9.cell? ⟨B0, 1, none⟩ = some (.int .i64 a1) := (blk_cell BK2.out 1).trans rfl; clear hb))
    go_ret
    exact ⟨by first | rfl | (simp [*]; done), HB2.out⟩
set_option maxHeartbeats 4000000 in
set_option maxRecDepth 100000 in
theorem blast_Right.ixb (a0 : Int) (a1 : Int) (a2 : Int) (a3 : Int) (a4 : Int) (a5 : Int) (a6 : Int) (B0 : Nat) (A0 : Option Addr) (c0 : Nat) (l0 : List (S30)) (w : World) (hr0 : Kd.C k30 w A0 l0.length l0) (hk0 : w.heap[B0]? = some (.cells #[.int .i64 a0, .int .i64 a1, .int .i64 a2, .int .i64 a3, .int .i64 a4, .int .i64 a5, .int .i64 a6] 30 (0, 0))) (r : Int) (hR : blast_Right.idx (blast_Right.prb a0 a1 a2 a3 a4 a5 a6) 0 l0 = r) :
    Calls Try.prog 55 #[.slice A0 l0.length c0, .func (.func 39) #[] #[.pointer (some ⟨B0, 0, none⟩)]] w fun e w' => e = .returned (.int .i64 r) ∧ Below w.heap.size w w' := by
  have HR0 := Aside0.mk hr0
  have BK0 := Aside0.mk hk0
  have hm := HR0.out.2.1
  have HR := Aside0.mk hR
  clear hr0 hR hk0
  go_enter Try.func55, Try.ntmps55
  go_wp2
  go_loopw [8] (fun v wr => ∃ (k : Nat), k ≤ l0.length ∧ v = .int .i64 k ∧ Aside0 (blast_Right.idx (blast_Right.prb a0 a1 a2 a3 a4 a5 a6) k (l0.drop k) = r) ∧ Aside0 (Below w.heap.size w wr)) (fun v _ => l0.length - (intOf v).toNat)
  case atStart => exact ⟨0, Nat.zero_le _, rfl, ⟨by rw [List.drop_zero]; exact HR.out⟩, ⟨Below.refl _ _⟩⟩
  case round =>
    obtain ⟨k, hk, rfl, HG, HB⟩ := hrel
    clear HR
    by_cases hlt : k < l0.length
    · have hg := HG.out
      clear HG
      have hd : l0.drop k = rd_T30 l0 (k : Int) :: l0.drop (k + 1) := by
        rw [List.drop_eq_getElem_cons hlt]
        simp [rd_T30, hlt]
      rw [hd] at hg
      simp only [blast_Right.idx] at hg
      clear hd
      obtain ⟨ad, e, hx0, hx1, hx2, hx3, hx4, hx5, hx6⟩ := at_T30 HR0.out (k : Int) (by omega) (by omega)
      cases e
      simp only [Int.toNat_natCast] at hx0 hx1 hx2 hx3 hx4 hx5 hx6
      replace hx0 := (HB.out.cell (World.block_lt_of_cell? w _ hx0)).trans hx0
      replace hx1 := (HB.out.cell (World.block_lt_of_cell? w _ hx1)).trans hx1
      replace hx2 := (HB.out.cell (World.block_lt_of_cell? w _ hx2)).trans hx2
      replace hx3 := (HB.out.cell (World.block_lt_of_cell? w _ hx3)).trans hx3
      replace hx4 := (HB.out.cell (World.block_lt_of_cell? w _ hx4)).trans hx4
      replace hx5 := (HB.out.cell (World.block_lt_of_cell? w _ hx5)).trans hx5
      replace hx6 := (HB.out.cell (World.block_lt_of_cell? w _ hx6)).trans hx6
      obtain ⟨x, hx⟩ : ∃ z, z = rd_T30 l0 (k : Int) := ⟨_, rfl⟩
      rw [← hx] at hx0 hx1 hx2 hx3 hx4 hx5 hx6 hg
      clear hx
      have HF := Aside0.mk (blast_Right.fnb a0 a1 a2 a3 a4 a5 a6 B0 x.f0 x.f1 x.f2 x.f3 x.f4 x.f5.f0 x.f5.f1 wr (blk_below BK0.out HB.out))
      obtain ⟨v, hv⟩ : ∃ z, z = blast_Right.prb a0 a1 a2 a3 a4 a5 a6 x := ⟨_, rfl⟩
      have HV : Aside0 (Calls Try.prog 39 #[.agg #[.int .i64 x.f0, .int .i64 x.f1, .int .i64 x.f2, .int .i64 x.f3, .int .i64 x.f4, .int .i64 x.f5.f0, .int .i64 x.f5.f1], .pointer (some ⟨B0, 0, none⟩)] wr fun e w' => e = .returned (.bool v) ∧ Below wr.heap.size wr w') := ⟨by rw [hv]; exact HF.out⟩
      rw [← hv] at hg
      clear hv HF
      cases v with
      | true =>
        rw [if_pos rfl] at hg
        subst hg
        go_wp2_with (first | (go_at_call 39; refine HV.out.mono ?_; rintro e w9 ⟨rfl, hb⟩; have HB2 := Aside0.mk (below_then HB.out HB.out.size hb); clear hb))
        go_ret
        exact ⟨rfl, HB2.out⟩
      | false =>
        rw [if_neg (by simp)] at hg
        have HG := Aside0.mk hg
        clear hg
        go_wp2_with (first | (go_at_call 39; refine HV.out.mono ?_; rintro e w9 ⟨rfl, hb⟩; have HB2 := Aside0.mk (below_then HB.out HB.out.size hb); clear hb))
        exact ⟨⟨k + 1, by omega, by go_num, HG, HB2⟩, by simp [intOf]; omega⟩
    · have : l0.drop k = [] := List.drop_eq_nil_of_le (by omega)
      have hg := HG.out
      clear HG
      rw [this] at hg
      simp only [blast_Right.idx] at hg
      subst hg
      clear this
      go_wp2
      go_ret
      exact ⟨rfl, HB.out⟩
set_option maxHeartbeats 4000000 in
set_option maxRecDepth 100000 in
theorem blast_Right.hasb (a0 : Int) (a1 : Int) (a2 : Int) (a3 : Int) (a4 : Int) (a5 : Int) (a6 : Int) (B0 : Nat) (A0 : Option Addr) (c0 : Nat) (l0 : List (S30)) (w : World) (hr0 : Kd.C k30 w A0 l0.length l0) (hk0 : w.heap[B0]? = some (.cells #[.int .i64 a0, .int .i64 a1, .int .i64 a2, .int .i64 a3, .int .i64 a4, .int .i64 a5, .int .i64 a6] 30 (0, 0))) (r : Int) (hR : blast_Right.idx (blast_Right.prb a0 a1 a2 a3 a4 a5 a6) 0 l0 = r) :
    Calls Try.prog 36 #[.slice A0 l0.length c0, .func (.func 39) #[] #[.pointer (some ⟨B0, 0, none⟩)]] w fun e w' => e = .returned (.bool (decide (0 ≤ r))) ∧ Below w.heap.size w w' := by
  have HX := Aside0.mk (blast_Right.ixb a0 a1 a2 a3 a4 a5 a6 B0 A0 c0 l0 w hr0 hk0 r hR)
  clear hr0 hR hk0
  go_enter Try.func36, Try.ntmps36
  go_wp2_with (first | (go_at_call 55; refine HX.out.mono ?_; rintro e w9 ⟨rfl, hb⟩; have HB2 := Aside0.mk hb; clear hb))
  go_ret
  exact ⟨by first | rfl | simp, HB2.out⟩
theorem blast_Right.hasN (a0 : Int) (a1 : Int) (a2 : Int) (a3 : Int) (a4 : Int) (a5 : Int) (a6 : Int) (B0 : Nat) (A0 : Option Addr) (c0 : Nat) (l0 : List (S30)) (n : Nat) (hn : n = l0.length) (w : World) (hr0 : Kd.C k30 w A0 l0.length l0) (hk0 : w.heap[B0]? = some (.cells #[.int .i64 a0, .int .i64 a1, .int .i64 a2, .int .i64 a3, .int .i64 a4, .int .i64 a5, .int .i64 a6] 30 (0, 0))) (r : Bool) (hR : decide (0 ≤ blast_Right.idx (blast_Right.pr a0 a1 a2 a3 a4 a5 a6) 0 l0) = r) :
    Calls Try.prog 36 #[.slice A0 n c0, .func (.func 37) #[] #[.pointer (some ⟨B0, 0, none⟩)]] w fun e w' => e = .returned (.bool r) ∧ Below w.heap.size w w' := by
  subst hn hR
  exact blast_Right.has a0 a1 a2 a3 a4 a5 a6 B0 A0 c0 l0 w hr0 hk0 _ rfl
theorem blast_Right.hasNb (a0 : Int) (a1 : Int) (a2 : Int) (a3 : Int) (a4 : Int) (a5 : Int) (a6 : Int) (B0 : Nat) (A0 : Option Addr) (c0 : Nat) (l0 : List (S30)) (n : Nat) (hn : n = l0.length) (w : World) (hr0 : Kd.C k30 w A0 l0.length l0) (hk0 : w.heap[B0]? = some (.cells #[.int .i64 a0, .int .i64 a1, .int .i64 a2, .int .i64 a3, .int .i64 a4, .int .i64 a5, .int .i64 a6] 30 (0, 0))) (r : Bool) (hR : decide (0 ≤ blast_Right.idx (blast_Right.prb a0 a1 a2 a3 a4 a5 a6) 0 l0) = r) :
    Calls Try.prog 36 #[.slice A0 n c0, .func (.func 39) #[] #[.pointer (some ⟨B0, 0, none⟩)]] w fun e w' => e = .returned (.bool r) ∧ Below w.heap.size w w' := by
  subst hn hR
  exact blast_Right.hasb a0 a1 a2 a3 a4 a5 a6 B0 A0 c0 l0 w hr0 hk0 _ rfl
set_option maxHeartbeats 8000000 in
set_option maxRecDepth 100000 in
theorem blast_Right.calls (A0 : Option Addr) (c0 : Nat) (l0 : List (S30)) (r : Int) (w : World) (hr0 : Kd.C k30 w A0 l0.length l0) (hc0 : l0.length ≤ c0) (h : blast_Right.f l0 = some r) :
    Calls Try.prog 12 #[.slice A0 l0.length c0] w fun e w' => e = .returned (.int .i64 r) ∧ Below w.heap.size w w' := by
  have hu := Try.underlying30
  have h' := Option.some.inj h
  clear h
  have HR0 := Aside0.mk hr0
  have HC0 := Aside0.mk hc0
  have hm := HR0.out.2.1
  clear hr0 hc0
  by_cases hlen : 64 < l0.length
  · rw [if_pos hlen] at h'
    subst h'
    have hgt : (64 : Int) < (l0.length : Int) := by omega
    go_enter Try.func12, Try.ntmps12
    go_wp2
    go_ret
    exact ⟨rfl, Below.refl _ _⟩
  · rw [if_neg hlen] at h'
    have hgt : ¬ (64 : Int) < (l0.length : Int) := by omega
    have H := Aside0.mk h'
    clear h'
    go_enter Try.func12, Try.ntmps12
    go_wp2
    go_loopw [10] (fun v wr => ∃ (k : Nat), k ≤ l0.length ∧ v = .int .i64 k ∧ Aside0 (blast_Right.go l0 (l0.length - k) k = r) ∧ Aside0 (Below w.heap.size w wr)) (fun v _ => l0.length - (intOf v).toNat)
    case atStart => exact ⟨0, Nat.zero_le _, rfl, ⟨by rw [Nat.sub_zero]; exact H.out⟩, ⟨Below.refl _ _⟩⟩
    case round =>
      obtain ⟨k, hk, rfl, HG, HB⟩ := hrel
      clear H
      by_cases hlt : k < l0.length
      · have hg := HG.out
        clear HG
        have hd : l0.length - k = (l0.length - (k + 1)) + 1 := by omega
        rw [hd] at hg
        simp only [blast_Right.go] at hg
        clear hd
        obtain ⟨ad, e, hx0, hx1, hx2, hx3, hx4, hx5, hx6⟩ := at_T30 HR0.out (k : Int) (by omega) (by omega)
        cases e
        simp only [Int.toNat_natCast] at hx0 hx1 hx2 hx3 hx4 hx5 hx6
        replace hx0 := (HB.out.cell (World.block_lt_of_cell? w _ hx0)).trans hx0
        replace hx1 := (HB.out.cell (World.block_lt_of_cell? w _ hx1)).trans hx1
        replace hx2 := (HB.out.cell (World.block_lt_of_cell? w _ hx2)).trans hx2
        replace hx3 := (HB.out.cell (World.block_lt_of_cell? w _ hx3)).trans hx3
        replace hx4 := (HB.out.cell (World.block_lt_of_cell? w _ hx4)).trans hx4
        replace hx5 := (HB.out.cell (World.block_lt_of_cell? w _ hx5)).trans hx5
        replace hx6 := (HB.out.cell (World.block_lt_of_cell? w _ hx6)).trans hx6
        obtain ⟨x, hx⟩ : ∃ z, z = rd_T30 l0 (k : Int) := ⟨_, rfl⟩
        rw [← hx] at hx0 hx1 hx2 hx3 hx4 hx5 hx6 hg
        clear hx
        have HX0 := Aside0.mk hx0
        have HX1 := Aside0.mk hx1
        have HX2 := Aside0.mk hx2
        have HX3 := Aside0.mk hx3
        have HX4 := Aside0.mk hx4
        have HX5 := Aside0.mk hx5
        have HX6 := Aside0.mk hx6
        have hki : (k : Int) < (l0.length : Int) := by omega
        have hkn : (0 : Int) ≤ (k : Int) := by omega
        have hkc : k ≤ c0 := by have := HC0.out; omega
        have HF0 := Aside0.mk (blast_Right.fields_eq x)
        have HO0 := Aside0.mk (blast_Right.open_eq x.f0 x.f1 x.f2 x.f3 x.f4 x.f5.f0 x.f5.f1)
        unfold blast_Right.at at hg
        obtain ⟨vf, hvf⟩ : ∃ z, z = blast_Right.fv x := ⟨_, rfl⟩
        have HF : Aside0 (blast_fields.f 8 x.f0 x.f1 x.f2 x.f3 x.f4 x.f5.f0 x.f5.f1 = some vf) := ⟨by rw [hvf]; exact HF0.out⟩
        rw [← hvf] at hg
        clear hvf HF0
        obtain ⟨vo, hvo⟩ : ∃ z, z = blast_Right.ov x.f3 := ⟨_, rfl⟩
        have HO : Aside0 (blast_open.f x.f0 x.f1 x.f2 x.f3 x.f4 x.f5.f0 x.f5.f1 = some vo) := ⟨by rw [hvo]; exact HO0.out⟩
        rw [← hvo] at hg
        clear hvo HO0
        obtain ⟨v7, H7⟩ : ∃ z, decide (0 ≤ blast_Right.idx (blast_Right.pr x.f0 x.f1 x.f2 x.f3 x.f4 x.f5.f0 x.f5.f1) 0 (l0.take k)) = z := ⟨_, rfl⟩
        obtain ⟨v15, H15⟩ : ∃ z, decide (0 ≤ blast_Right.idx (blast_Right.prb x.f0 x.f1 x.f2 x.f3 x.f4 x.f5.f0 x.f5.f1) 0 (l0.take k)) = z := ⟨_, rfl⟩
        have hg' : (match (if vf = true then (if v7 = true then some 7 else if vo = true ∧ v15 = true then some 15 else none) else some 2 : Option Int) with | some e => e | none => blast_Right.go l0 (l0.length - (k + 1)) (k + 1)) = r := by
          rw [← hg, ← H7, ← H15]
          simp only [decide_eq_true_eq]
        clear hg
        have H7 := Aside0.mk H7
        have H15 := Aside0.mk H15
        go_wp2_with (first | ((with_reducible refine gate_dst (N := 4) rfl ?_); refine box_event ?hg (N := 4) ?hd (cs := #[.int .i64 0, .int .i64 0, .int .i64 0, .int .i64 0, .int .i64 0, .int .i64 0, .int .i64 0]) (t := 30) ?hr ?_; (case hd => rfl); (case hg => rfl); (case hr => first | (go_simp; done) | (go_simp; rfl)); intro gm hgb w8 hbox hb; have HB1 := Aside0.mk (below_then HB.out HB.out.size hb); have BM := Aside0.mk hbox; have GM := Aside0.mk (show w.heap.size ≤ gm by rw [hgb]; exact below_size HB.out); have hcm0 : w8.cell? ⟨gm, 0, none⟩ = some (.int .i64 0) := (blk_cell BM.out 0).trans rfl; have hfm0 := blk_frozen BM.out 0; have hcm1 : w8.cell? ⟨gm, 1, none⟩ = some (.int .i64 0) := (blk_cell BM.out 1).trans rfl; have hfm1 := blk_frozen BM.out 1; have hcm2 : w8.cell? ⟨gm, 2, none⟩ = some (.int .i64 0) := (blk_cell BM.out 2).trans rfl; have hfm2 := blk_frozen BM.out 2; have hcm3 : w8.cell? ⟨gm, 3, none⟩ = some (.int .i64 0) := (blk_cell BM.out 3).trans rfl; have hfm3 := blk_frozen BM.out 3; have hcm4 : w8.cell? ⟨gm, 4, none⟩ = some (.int .i64 0) := (blk_cell BM.out 4).trans rfl; have hfm4 := blk_frozen BM.out 4; have hcm5 : w8.cell? ⟨gm, 5, none⟩ = some (.int .i64 0) := (blk_cell BM.out 5).trans rfl; have hfm5 := blk_frozen BM.out 5; have hcm6 : w8.cell? ⟨gm, 6, none⟩ = some (.int .i64 0) := (blk_cell BM.out 6).trans rfl; have hfm6 := blk_frozen BM.out 6; clear hb hbox hgb) | (go_at_call 35; refine (blast_fields.calls 8 x.f0 x.f1 x.f2 x.f3 x.f4 x.f5.f0 x.f5.f1 _ _ HF.out).mono ?_; rintro e w9 ⟨rfl, hb⟩; have BM2 := Aside0.mk (blk_below (g := gm) (o := .cells #[.int .i64 x.f0, .int .i64 x.f1, .int .i64 x.f2, .int .i64 x.f3, .int .i64 x.f4, .int .i64 x.f5.f0, .int .i64 x.f5.f1] 30 (0, 0)) (by (with_reducible repeat (first | refine bN_ ?_ _ | refine bD_ ?_ | refine bA_ ?_ _)); refine blk_put (cs := #[.int .i64 x.f0, .int .i64 x.f1, .int .i64 x.f2, .int .i64 x.f3, .int .i64 x.f4, .int .i64 x.f5.f0, .int .i64 0]) ?_ 6 _ rfl; (with_reducible repeat (first | refine bN_ ?_ _ | refine bD_ ?_ | refine bA_ ?_ _)); refine blk_put (cs := #[.int .i64 x.f0, .int .i64 x.f1, .int .i64 x.f2, .int .i64 x.f3, .int .i64 x.f4, .int .i64 0, .int .i64 0]) ?_ 5 _ rfl; (with_reducible repeat (first | refine bN_ ?_ _ | refine bD_ ?_ | refine bA_ ?_ _)); refine blk_put (cs := #[.int .i64 x.f0, .int .i64 x.f1, .int .i64 x.f2, .int .i64 x.f3, .int .i64 0, .int .i64 0, .int .i64 0]) ?_ 4 _ rfl; (with_reducible repeat (first | refine bN_ ?_ _ | refine bD_ ?_ | refine bA_ ?_ _)); refine blk_put (cs := #[.int .i64 x.f0, .int .i64 x.f1, .int .i64 x.f2, .int .i64 0, .int .i64 0, .int .i64 0, .int .i64 0]) ?_ 3 _ rfl; (with_reducible repeat (first | refine bN_ ?_ _ | refine bD_ ?_ | refine bA_ ?_ _)); refine blk_put (cs := #[.int .i64 x.f0, .int .i64 x.f1, .int .i64 0, .int .i64 0, .int .i64 0, .int .i64 0, .int .i64 0]) ?_ 2 _ rfl; (with_reducible repeat (first | refine bN_ ?_ _ | refine bD_ ?_ | refine bA_ ?_ _)); refine blk_put (cs := #[.int .i64 x.f0, .int .i64 0, .int .i64 0, .int .i64 0, .int .i64 0, .int .i64 0, .int .i64 0]) ?_ 1 _ rfl; (with_reducible repeat (first | refine bN_ ?_ _ | refine bD_ ?_ | refine bA_ ?_ _)); refine blk_put (cs := #[.int .i64 0, .int .i64 0, .int .i64 0, .int .i64 0, .int .i64 0, .int .i64 0, .int .i64 0]) ?_ 0 _ rfl; (with_reducible repeat (first | refine bN_ ?_ _ | refine bD_ ?_ | refine bA_ ?_ _)); exact BM.out) hb); have HB2 := Aside0.mk (below_step (by repeat (first | (with_reducible first | exact HB1.out | apply lA_ | apply lN_ | apply lD_ | refine lS_ ?_ GM.out) | exact HB1.out)) hb); clear hb; have hqw9_0 : w9.cell? ⟨gm, 0, none⟩ = some (.int .i64 x.f0) := (blk_cell BM2.out 0).trans rfl; have hqw9_1 : w9.cell? ⟨gm, 1, none⟩ = some (.int .i64 x.f1) := (blk_cell BM2.out 1).trans rfl; have hqw9_2 : w9.cell? ⟨gm, 2, none⟩ = some (.int .i64 x.f2) := (blk_cell BM2.out 2).trans rfl; have hqw9_3 : w9.cell? ⟨gm, 3, none⟩ = some (.int .i64 x.f3) := (blk_cell BM2.out 3).trans rfl; have hqw9_4 : w9.cell? ⟨gm, 4, none⟩ = some (.int .i64 x.f4) := (blk_cell BM2.out 4).trans rfl; have hqw9_5 : w9.cell? ⟨gm, 5, none⟩ = some (.int .i64 x.f5.f0) := (blk_cell BM2.out 5).trans rfl; have hqw9_6 : w9.cell? ⟨gm, 6, none⟩ = some (.int .i64 x.f5.f1) := (blk_cell BM2.out 6).trans rfl; (try clear hcm0 hfm0 hx0 hcm1 hfm1 hx1 hcm2 hfm2 hx2 hcm3 hfm3 hx3 hcm4 hfm4 hx4 hcm5 hfm5 hx5 hcm6 hfm6 hx6); refine Aside0.out ?_))
        refine ⟨?_⟩
        cases vf with
        | false =>
          simp only [Bool.false_eq_true, if_false] at hg'
          subst hg'
          go_wp2
          go_ret
          exact ⟨rfl, HB2.out⟩
        | true =>
          simp only [if_true] at hg'
          go_wp2_with (go_at_call 36; refine (blast_Right.hasN x.f0 x.f1 x.f2 x.f3 x.f4 x.f5.f0 x.f5.f1 gm _ _ (l0.take k) k (by rw [List.length_take]; omega) _ (Kd.C_below (Kd.C_take HR0.out (by omega)) HB2.out) BM2.out _ H7.out).mono ?_; rintro e w10 ⟨rfl, hb⟩; have BM3 := Aside0.mk (blk_below BM2.out hb); have HB3 := Aside0.mk (below_then HB2.out HB2.out.size hb); clear hb; have hqw10_0 : w10.cell? ⟨gm, 0, none⟩ = some (.int .i64 x.f0) := (blk_cell BM3.out 0).trans rfl; have hqw10_1 : w10.cell? ⟨gm, 1, none⟩ = some (.int .i64 x.f1) := (blk_cell BM3.out 1).trans rfl; have hqw10_2 : w10.cell? ⟨gm, 2, none⟩ = some (.int .i64 x.f2) := (blk_cell BM3.out 2).trans rfl; have hqw10_3 : w10.cell? ⟨gm, 3, none⟩ = some (.int .i64 x.f3) := (blk_cell BM3.out 3).trans rfl; have hqw10_4 : w10.cell? ⟨gm, 4, none⟩ = some (.int .i64 x.f4) := (blk_cell BM3.out 4).trans rfl; have hqw10_5 : w10.cell? ⟨gm, 5, none⟩ = some (.int .i64 x.f5.f0) := (blk_cell BM3.out 5).trans rfl; have hqw10_6 : w10.cell? ⟨gm, 6, none⟩ = some (.int .i64 x.f5.f1) := (blk_cell BM3.out 6).trans rfl; (try clear hqw9_0 hqw9_1 hqw9_2 hqw9_3 hqw9_4 hqw9_5 hqw9_6); refine Aside0.out ?_)
          refine ⟨?_⟩
          cases v7 with
          | true =>
            simp only [if_true] at hg'
            subst hg'
            go_wp2
            go_ret
            exact ⟨rfl, HB3.out⟩
          | false =>
            simp only [Bool.false_eq_true, if_false] at hg'
            go_wp2_with (go_at_call 38; refine (blast_open.calls x.f0 x.f1 x.f2 x.f3 x.f4 x.f5.f0 x.f5.f1 _ _ HO.out).mono ?_; rintro e w11 ⟨rfl, hb⟩; have BM4 := Aside0.mk (blk_below BM3.out hb); have HB4 := Aside0.mk (below_then HB3.out HB3.out.size hb); clear hb; have hqw11_0 : w11.cell? ⟨gm, 0, none⟩ = some (.int .i64 x.f0) := (blk_cell BM4.out 0).trans rfl; have hqw11_1 : w11.cell? ⟨gm, 1, none⟩ = some (.int .i64 x.f1) := (blk_cell BM4.out 1).trans rfl; have hqw11_2 : w11.cell? ⟨gm, 2, none⟩ = some (.int .i64 x.f2) := (blk_cell BM4.out 2).trans rfl; have hqw11_3 : w11.cell? ⟨gm, 3, none⟩ = some (.int .i64 x.f3) := (blk_cell BM4.out 3).trans rfl; have hqw11_4 : w11.cell? ⟨gm, 4, none⟩ = some (.int .i64 x.f4) := (blk_cell BM4.out 4).trans rfl; have hqw11_5 : w11.cell? ⟨gm, 5, none⟩ = some (.int .i64 x.f5.f0) := (blk_cell BM4.out 5).trans rfl; have hqw11_6 : w11.cell? ⟨gm, 6, none⟩ = some (.int .i64 x.f5.f1) := (blk_cell BM4.out 6).trans rfl; (try clear hqw10_0 hqw10_1 hqw10_2 hqw10_3 hqw10_4 hqw10_5 hqw10_6); refine Aside0.out ?_)
            refine ⟨?_⟩
            cases vo with
            | false =>
              simp only [Bool.false_eq_true, false_and, if_false] at hg'
              have HG := Aside0.mk hg'
              clear hg'
              go_wp2
              exact ⟨⟨k + 1, by omega, by go_num, HG, HB4⟩, by simp [intOf]; omega⟩
            | true =>
              go_wp2_with (go_at_call 36; refine (blast_Right.hasNb x.f0 x.f1 x.f2 x.f3 x.f4 x.f5.f0 x.f5.f1 gm _ _ (l0.take k) k (by rw [List.length_take]; omega) _ (Kd.C_below (Kd.C_take HR0.out (by omega)) HB4.out) BM4.out _ H15.out).mono ?_; rintro e w12 ⟨rfl, hb⟩; have HB5 := Aside0.mk (below_then HB4.out HB4.out.size hb); clear hb; refine Aside0.out ?_)
              refine ⟨?_⟩
              cases v15 with
              | true =>
                simp only [true_and, and_self, if_true] at hg'
                subst hg'
                go_wp2
                go_ret
                exact ⟨rfl, HB5.out⟩
              | false =>
                simp only [Bool.false_eq_true, and_false, if_false] at hg'
                have HG := Aside0.mk hg'
                clear hg'
                go_wp2
                exact ⟨⟨k + 1, by omega, by go_num, HG, HB5⟩, by simp [intOf]; omega⟩
      · have hg := HG.out
        clear HG
        obtain rfl : k = l0.length := by omega
        rw [Nat.sub_self] at hg
        simp only [blast_Right.go] at hg
        subst hg
        go_wp2
        go_ret
        exact ⟨rfl, HB.out⟩

end Go.Proofs.Ytjlfaoaoinhebaa.A
