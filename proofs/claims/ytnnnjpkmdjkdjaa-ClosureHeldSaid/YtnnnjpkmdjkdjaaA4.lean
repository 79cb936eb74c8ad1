-- PRINTED by print.py (a twelfth state) out of the translation. Not trusted: Lean checks it.
import Derived.Test.YtnnnjpkmdjkdjaaA0
import Derived.Test.YtnnnjpkmdjkdjaaA2
import Derived.Test.YtnnnjpkmdjkdjaaA3
namespace Go.Proofs.Ytnnnjpkmdjkdjaa.A
open Go.RowKit Go.Proofs.YtnnnjpkmdjkdjaaW.PrintWords Go.Proofs.YtnnnjpkmdjkdjaaW.PrintLast Go.Proofs.YtnnnjpkmdjkdjaaW.PrintMore
attribute [local go_sem] max2_int min2_int max_two min_two max_three min_three max_four min_four   -- for this text's walks alone
set_option linter.unusedVariables false
set_option linter.unusedSimpArgs false

attribute [local go_sem high] eqA64
-- by hand: closure.index.tpl
def closure_index.pr (a0 a1 a2 : Int) (x : S28) : Bool := x.f0 == a0 && (x.f1 == a1 && (x.f2 == a2))
def closure_index.idx (p : S28 → Bool) : Nat → List (S28) → Int
  | _, [] => -1
  | i, x :: xs => if p x = true then (i : Int) else closure_index.idx p (i + 1) xs
def closure_index.f (l0 : List (S28)) (a1_0 : Int) (a1_1 : Int) (a1_2 : Int) : Option (Int) := some (closure_index.idx (closure_index.pr a1_0 a1_1 a1_2) 0 l0)
set_option maxHeartbeats 4000000 in
set_option maxRecDepth 100000 in
theorem closure_index.fn (a0 a1 a2 : Int) (B : Nat) (x0 x1 x2 x3 : Int) (w : World) (hk : w.heap[B]? = some (.cells #[.int .i64 a0, .int .i64 a1, .int .i64 a2] 64 (0, 0))) :
    Calls Try.prog 44 #[.agg #[.int .i64 x0, .int .i64 x1, .int .i64 x2, .int .i64 x3], .pointer (some ⟨B, 0, none⟩)] w fun e w' => e = .returned (.bool (x0 == a0 && (x1 == a1 && (x2 == a2)))) ∧ Below w.heap.size w w' := by
  have hu28 := Try.underlying28
  have hu64 := Try.underlying64
  have BK := Aside0.mk hk
  clear hk
  go_enter Try.func44, Try.ntmps44
  go_wp2_with (first | ((with_reducible refine gate_dst (N := 2) rfl ?_); refine box_event ?hg (N := 2) ?hd (cs := #[.int .i64 x0, .int .i64 x1, .int .i64 x2, .int .i64 x3]) (t := 28) ?hr ?_; (case hd => rfl); (case hg => rfl); (case hr => first | (go_simp; done) | (go_simp; rfl)); intro gb hgb w8 hbox hb; have HB1 := Aside0.mk hb; have BX := Aside0.mk hbox; have BK1 := Aside0.mk (blk_below BK.out hb); have hcx0 : w8.cell? ⟨gb, 0, none⟩ = some (.int .i64 x0) := (blk_cell BX.out 0).trans rfl; have hcx1 : w8.cell? ⟨gb, 1, none⟩ = some (.int .i64 x1) := (blk_cell BX.out 1).trans rfl; have hcx2 : w8.cell? ⟨gb, 2, none⟩ = some (.int .i64 x2) := (blk_cell BX.out 2).trans rfl; have hcx3 : w8.cell? ⟨gb, 3, none⟩ = some (.int .i64 x3) := (blk_cell BX.out 3).trans rfl; have hck0 : w8.cell? ⟨B, 0, none⟩ = some (.int .i64 a0) := (blk_cell BK1.out 0).trans rfl; have hck1 : w8.cell? ⟨B, 1, none⟩ = some (.int .i64 a1) := (blk_cell BK1.out 1).trans rfl; have hck2 : w8.cell? ⟨B, 2, none⟩ = some (.int .i64 a2) := (blk_cell BK1.out 2).trans rfl; clear hb hbox hgb))
  go_region_with (go_at_call 31; refine (closure_keyOf.calls x0 x1 x2 x3 x0 x1 x2 _ rfl).mono ?_; rintro e w9 ⟨rfl, hb⟩; have hckk0 : w9.cell? ⟨B, 0, none⟩ = some (.int .i64 a0) := (hb.cell (p := ⟨B, 0, none⟩) (World.block_lt_of_cell? w8 _ hck0)).trans hck0; have hckk1 : w9.cell? ⟨B, 1, none⟩ = some (.int .i64 a1) := (hb.cell (p := ⟨B, 1, none⟩) (World.block_lt_of_cell? w8 _ hck1)).trans hck1; have hckk2 : w9.cell? ⟨B, 2, none⟩ = some (.int .i64 a2) := (hb.cell (p := ⟨B, 2, none⟩) (World.block_lt_of_cell? w8 _ hck2)).trans hck2; have HB2 := Aside0.mk (below_then (below_drew HB1.out) HB1.out.size hb); clear hb)
  all_goals
    go_wp2
    go_ret
    exact ⟨rfl, by first | exact HB2.out | exact below_drew HB2.out⟩
set_option maxHeartbeats 4000000 in
set_option maxRecDepth 100000 in
theorem closure_index.ix (a0 a1 a2 : Int) (B : Nat) (A0 : Option Addr) (c0 : Nat) (l0 : List (S28)) (w : World) (hr0 : Kd.C k28 w A0 l0.length l0) (hk : w.heap[B]? = some (.cells #[.int .i64 a0, .int .i64 a1, .int .i64 a2] 64 (0, 0))) (r : Int) (hR : closure_index.idx (closure_index.pr a0 a1 a2) 0 l0 = r) :
    Calls Try.prog 43 #[.slice A0 l0.length c0, .func (.func 44) #[] #[.pointer (some ⟨B, 0, none⟩)]] w fun e w' => e = .returned (.int .i64 r) ∧ Below w.heap.size w w' := by
  have HR0 := Aside0.mk hr0
  have BK := Aside0.mk hk
  have hm := HR0.out.2.1
  have HR := Aside0.mk hR
  clear hr0 hk hR
  go_enter Try.func43, Try.ntmps43
  go_wp2
  go_loopw [8] (fun v wr => ∃ (k : Nat), k ≤ l0.length ∧ v = .int .i64 k ∧ Aside0 (closure_index.idx (closure_index.pr a0 a1 a2) k (l0.drop k) = r) ∧ Aside0 (Below w.heap.size w wr)) (fun v _ => l0.length - (intOf v).toNat)
  case atStart => exact ⟨0, Nat.zero_le _, rfl, ⟨by rw [List.drop_zero]; exact HR.out⟩, ⟨Below.refl _ _⟩⟩
  case round =>
    obtain ⟨k, hk, rfl, HG, HB⟩ := hrel
    clear HR
    by_cases hlt : k < l0.length
    · have hg := HG.out
      clear HG
      have hd : l0.drop k = rd_T28 l0 (k : Int) :: l0.drop (k + 1) := by
        rw [List.drop_eq_getElem_cons hlt]
        simp [rd_T28, hlt]
      rw [hd] at hg
      simp only [closure_index.idx] at hg
      clear hd
      obtain ⟨ad, e, hx0, hx1, hx2, hx3⟩ := at_T28 HR0.out (k : Int) (by omega) (by omega)
      cases e
      simp only [Int.toNat_natCast] at hx0 hx1 hx2 hx3
      replace hx0 := (HB.out.cell (World.block_lt_of_cell? w _ hx0)).trans hx0
      replace hx1 := (HB.out.cell (World.block_lt_of_cell? w _ hx1)).trans hx1
      replace hx2 := (HB.out.cell (World.block_lt_of_cell? w _ hx2)).trans hx2
      replace hx3 := (HB.out.cell (World.block_lt_of_cell? w _ hx3)).trans hx3
      obtain ⟨x, hx⟩ : ∃ z, z = rd_T28 l0 (k : Int) := ⟨_, rfl⟩
      rw [← hx] at hx0 hx1 hx2 hx3 hg
      clear hx
      have BK2 := Aside0.mk (blk_below BK.out HB.out)
      have hf := fun W' (hW' : W'.heap[B]? = some (.cells #[.int .i64 a0, .int .i64 a1, .int .i64 a2] 64 (0, 0))) => closure_index.fn a0 a1 a2 B x.f0 x.f1 x.f2 x.f3 W' hW'
      have HF := Aside0.mk (hf wr BK2.out)
      clear hf
      obtain ⟨v, hv⟩ : ∃ z, z = closure_index.pr a0 a1 a2 x := ⟨_, rfl⟩
      have HV : Aside0 (Calls Try.prog 44 #[.agg #[.int .i64 x.f0, .int .i64 x.f1, .int .i64 x.f2, .int .i64 x.f3], .pointer (some ⟨B, 0, none⟩)] wr fun e w' => e = .returned (.bool v) ∧ Below wr.heap.size wr w') := ⟨by rw [hv]; exact HF.out⟩
      rw [← hv] at hg
      clear hv HF
      cases v with
      | true =>
        rw [if_pos rfl] at hg
        subst hg
        go_wp2_with (first | (go_at_call 44; refine HV.out.mono ?_; rintro e w9 ⟨rfl, hb⟩; have HB2 := Aside0.mk (below_then HB.out HB.out.size hb); clear hb))
        go_ret
        exact ⟨rfl, HB2.out⟩
      | false =>
        rw [if_neg (by simp)] at hg
        have HG := Aside0.mk hg
        clear hg
        go_wp2_with (first | (go_at_call 44; refine HV.out.mono ?_; rintro e w9 ⟨rfl, hb⟩; have HB2 := Aside0.mk (below_then HB.out HB.out.size hb); clear hb))
        exact ⟨⟨k + 1, by omega, by go_num, HG, HB2⟩, by simp [intOf]; omega⟩
    · have : l0.drop k = [] := List.drop_eq_nil_of_le (by omega)
      have hg := HG.out
      clear HG
      rw [this] at hg
      simp only [closure_index.idx] at hg
      subst hg
      clear this
      go_wp2
      go_ret
      exact ⟨rfl, HB.out⟩
set_option maxHeartbeats 4000000 in
set_option maxRecDepth 100000 in
theorem closure_index.calls (A0 : Option Addr) (c0 : Nat) (l0 : List (S28)) (a1_0 : Int) (a1_1 : Int) (a1_2 : Int) (r : Int) (w : World) (hr0 : Kd.C k28 w A0 l0.length l0) (hc0 : l0.length ≤ c0) (h : closure_index.f l0 a1_0 a1_1 a1_2 = some r) :
    Calls Try.prog 30 #[.slice A0 l0.length c0, .agg #[.int .i64 a1_0, .int .i64 a1_1, .int .i64 a1_2]] w fun e w' => e = .returned (.int .i64 r) ∧ Below w.heap.size w w' := by
  obtain rfl := Option.some.inj h
  clear h
  have hu64 := Try.underlying64
  have HR0 := Aside0.mk hr0
  clear hr0 hc0
  go_enter Try.func30, Try.ntmps30
  go_wp2_with (first | ((with_reducible refine gate_dst (N := 3) rfl ?_); refine box_event ?hg (N := 3) ?hd (cs := #[.int .i64 a1_0, .int .i64 a1_1, .int .i64 a1_2]) (t := 64) ?hr ?_; (case hd => rfl); (case hg => rfl); (case hr => first | (go_simp; done) | (go_simp; rfl)); intro gb hgb w8 hbox hb; have HB1 := Aside0.mk hb; have BX := Aside0.mk hbox; clear hb hbox hgb) | (go_at_call 43; refine (closure_index.ix a1_0 a1_1 a1_2 gb _ _ l0 _ (Kd.C_below HR0.out HB1.out) BX.out _ rfl).mono ?_; rintro e w9 ⟨rfl, hb⟩; have HB2 := Aside0.mk (below_then HB1.out HB1.out.size hb); clear hb))
  go_ret
  exact ⟨rfl, HB2.out⟩

end Go.Proofs.Ytnnnjpkmdjkdjaa.A
