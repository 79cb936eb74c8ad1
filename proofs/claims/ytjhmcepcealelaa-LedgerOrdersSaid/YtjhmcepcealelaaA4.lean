-- PRINTED by print.py (a twelfth state) out of the translation. Not trusted: Lean checks it.
import Derived.Test.YtjhmcepcealelaaA0
import Derived.Test.YtjhmcepcealelaaA3
namespace Go.Proofs.Ytjhmcepcealelaa.A
open Go.RowKit Go.Proofs.YtjhmcepcealelaaW.PrintWords Go.Proofs.YtjhmcepcealelaaW.PrintLast Go.Proofs.YtjhmcepcealelaaW.PrintMore
attribute [local go_sem] max2_int min2_int max_two min_two max_three min_three max_four min_four   -- for this text's walks alone
set_option linter.unusedVariables false
set_option linter.unusedSimpArgs false

/-! ### ledger_Right: function 11 -/
-- by hand: ledger.Right.tpl
open Go.Proofs.Ytjhmcepcealelaa.HSet
def ledger_Right.go : List Int → List (S28) → Int
  | _, [] => 0
  | seen, p :: ps => if ledger_check.val p.f0 p.f1 p.f2 p.f3 = 0 then (if seen.contains p.f0 = true then 7 else ledger_Right.go (p.f0 :: seen) ps) else ledger_check.val p.f0 p.f1 p.f2 p.f3
def ledger_Right.f (l0 : List (S28)) : Option (Int) := some (if 2000 < l0.length then 4 else ledger_Right.go [] l0)
theorem ledger_Right.check_ref {a b c d : Int} (h : ledger_check.val a b c d = 0) : 1 ≤ a ∧ a ≤ 1000000000 := by
  unfold ledger_check.val at h
  by_cases h1 : a < 1
  · rw [if_pos h1] at h; omega
  · rw [if_neg h1] at h
    by_cases h2 : 1000000000 < a
    · rw [if_pos h2] at h; omega
    · omega
theorem ledger_Right.drop_at (l : List (S28)) (k : Nat) (h : k < l.length) : l.drop k = rd_T28 l (k : Int) :: l.drop (k + 1) := by
  rw [List.drop_eq_getElem_cons h]
  simp [rd_T28, h]
theorem ledger_Right.zeroB (w : World) : (zeroValue 4).run Try.prog w = .ok (.bool false) w := by kernel_rfl
set_option maxHeartbeats 4000000 in
set_option maxRecDepth 100000 in
theorem ledger_Right.calls (A0 : Option Addr) (c0 : Nat) (l0 : List (S28)) (r : Int) (w : World) (hr0 : Kd.C k28 w A0 l0.length l0) (hc0 : l0.length ≤ c0) (h : ledger_Right.f l0 = some r) :
    Calls Try.prog 11 #[.slice A0 l0.length c0] w fun e w' => e = .returned (.int .i64 r) ∧ Below w.heap.size w w' := by
  have hu28 := Try.underlying28
  have hmm := @run_makeMap Try.prog
  have HR0 := Aside0.mk hr0
  clear hr0 hc0
  have h1 := Option.some.inj h
  clear h
  have hm := HR0.out.2.1
  by_cases hl : 2000 < l0.length
  · rw [if_pos hl] at h1
    subst h1
    have hlb : decide (2000 < l0.length) = true := decide_eq_true hl
    have hlc : decide ((2000 : Int) < (l0.length : Int)) = true := decide_eq_true (by omega)
    clear hl
    go_enter Try.func11, Try.ntmps11
    go_wp2
    go_ret
    exact ⟨rfl, Below.refl _ _⟩
  · rw [if_neg hl] at h1
    have H := Aside0.mk h1
    have HL := Aside0.mk hl
    clear h1
    have hlb : decide (2000 < l0.length) = false := decide_eq_false hl
    have hlc : decide ((2000 : Int) < (l0.length : Int)) = false := decide_eq_false (by omega)
    clear hl
    go_enter Try.func11, Try.ntmps11
    go_wp2
    go_loopw [13] (fun v wr => ∃ (k : Nat) (seen : List Int), k ≤ l0.length ∧ v = .int .i64 k ∧ Aside0 (ledger_Right.go seen (l0.drop k) = r) ∧ Aside0 (IsSet Try.prog 3 4 wr w.heap.size k (fun x => seen.contains x)) ∧ Aside0 (Below w.heap.size w wr)) (fun v _ => l0.length - (intOf v).toNat)
    case atStart => exact ⟨0, [], Nat.zero_le _, rfl, ⟨by rw [List.drop_zero]; exact H.out⟩, ⟨(IsSet.made _ _ _ w).same (fun _ => by simp)⟩, ⟨(Below.refl _ _).alloc (Nat.le_refl _) _⟩⟩
    case round =>
      obtain ⟨k, seen, hk, rfl, HG, HS, HB⟩ := hrel
      by_cases hlt : k < l0.length
      · have hg := HG.out
        clear HG H
        rw [ledger_Right.drop_at l0 k hlt] at hg
        obtain ⟨ad, e, hx0, hx1, hx2, hx3⟩ := at_T28 HR0.out (k : Int) (by omega) (by omega)
        cases e
        simp only [Int.toNat_natCast] at hx0 hx1 hx2 hx3
        replace hx0 := (HB.out.cell (World.block_lt_of_cell? w _ hx0)).trans hx0
        replace hx1 := (HB.out.cell (World.block_lt_of_cell? w _ hx1)).trans hx1
        replace hx2 := (HB.out.cell (World.block_lt_of_cell? w _ hx2)).trans hx2
        replace hx3 := (HB.out.cell (World.block_lt_of_cell? w _ hx3)).trans hx3
        obtain ⟨f0, hf0⟩ : ∃ z, z = (rd_T28 l0 (k : Int)).f0 := ⟨_, rfl⟩
        obtain ⟨f1, hf1⟩ : ∃ z, z = (rd_T28 l0 (k : Int)).f1 := ⟨_, rfl⟩
        obtain ⟨f2, hf2⟩ : ∃ z, z = (rd_T28 l0 (k : Int)).f2 := ⟨_, rfl⟩
        obtain ⟨f3, hf3⟩ : ∃ z, z = (rd_T28 l0 (k : Int)).f3 := ⟨_, rfl⟩
        simp only [ledger_Right.go, ← hf0, ← hf1, ← hf2, ← hf3] at hg
        rw [← hf0] at hx0
        rw [← hf1] at hx1
        rw [← hf2] at hx2
        rw [← hf3] at hx3
        clear hf0 hf1 hf2 hf3
        obtain ⟨v, hv⟩ : ∃ z, z = ledger_check.val f0 f1 f2 f3 := ⟨_, rfl⟩
        rw [← hv] at hg
        have HV := Aside0.mk (show ledger_check.f f0 f1 f2 f3 = some v by rw [hv]; rfl)
        have HV2 := Aside0.mk hv
        clear hv
        by_cases hz : v = 0
        · rw [if_pos hz] at hg
          have HF := Aside0.mk (ledger_Right.check_ref (HV2.out.symm.trans hz))
          have HW : (Lit.int .i64 f0).wf = true := by have := HF.out; simp [Lit.wf, IntKind.min, IntKind.max, IntKind.signed, IntKind.bits]; omega
          have hz1 : (v == 0) = true := beq_iff_eq.mpr hz
          have hz2 : (v != 0) = false := bne_eq_false_iff_eq.mpr hz
          clear hz
          by_cases hs : seen.contains f0 = true
          · rw [if_pos hs] at hg
            subst hg
            have HSB := Aside0.mk hs
            clear hs
            go_wp2_with (first | ((with_reducible refine gate_dst (N := 5) rfl ?_); refine box_event ?hg (N := 5) ?hd (cs := #[.int .i64 0, .int .i64 0, .int .i64 0, .int .i64 0]) (t := 28) ?hr ?_; (case hd => rfl); (case hg => rfl); (case hr => first | (go_simp; done) | (go_simp; rfl)); intro gb hgb w8 hbox hb; have HS1 := Aside0.mk (IsSet.below HS.out hb); have HB1 := Aside0.mk (below_then HB.out HB.out.size hb); have BK := Aside0.mk hbox; have HN := Aside0.mk (show w.heap.size ≠ gb from fun e_ => by have := HS.out.lt; omega); have hcz0 : w8.cell? ⟨gb, 0, none⟩ = some (.int .i64 0) := (blk_cell BK.out 0).trans rfl; have hcz1 : w8.cell? ⟨gb, 1, none⟩ = some (.int .i64 0) := (blk_cell BK.out 1).trans rfl; have hcz2 : w8.cell? ⟨gb, 2, none⟩ = some (.int .i64 0) := (blk_cell BK.out 2).trans rfl; have hcz3 : w8.cell? ⟨gb, 3, none⟩ = some (.int .i64 0) := (blk_cell BK.out 3).trans rfl; have hfz0 := blk_frozen BK.out 0; have hfz1 := blk_frozen BK.out 1; have hfz2 := blk_frozen BK.out 2; have hfz3 := blk_frozen BK.out 3; have GE := Aside0.mk (show w.heap.size ≤ gb by have := HB.out.size; omega); clear hb hbox hgb) | (go_at_call 26; refine (ledger_check.calls f0 f1 f2 f3 v _ HV.out).mono ?_; rintro e w9 ⟨rfl, hb⟩; have HS2 := Aside0.mk (IsSet.below (IsSet.far (IsSet.far (IsSet.far (IsSet.far HS1.out HN.out _) HN.out _) HN.out _) HN.out _) hb); have HB2 := Aside0.mk (below_then (below_set (below_set (below_set (below_set HB1.out GE.out) GE.out) GE.out) GE.out) (by simp; exact HB1.out.size) hb); have hc9 : w9.cell? ⟨gb, 0, none⟩ = some (.int .i64 f0) := (hb.cell (p := ⟨gb, 0, none⟩) (by simp; exact blk_lt BK.out)).trans (by go_simp); clear hb) | (at_lookup; refine wpList_lookup_set rfl (.tmp 22) (.tmp 24) 44 rfl 3 4 Try.underlying3 Try.underlying44 Try.underlying4 (ledger_Right.zeroB _) w.heap.size k _ rfl HS2.out f0 rfl HW true HSB.out ?_))
            go_ret
            exact ⟨rfl, HB2.out⟩
          · rw [if_neg hs] at hg
            have hs1 : seen.contains f0 = false := by simpa using hs
            have HSB := Aside0.mk hs1
            clear hs hs1
            have HG := Aside0.mk hg
            clear hg
            go_wp2_with (first | ((with_reducible refine gate_dst (N := 5) rfl ?_); refine box_event ?hg (N := 5) ?hd (cs := #[.int .i64 0, .int .i64 0, .int .i64 0, .int .i64 0]) (t := 28) ?hr ?_; (case hd => rfl); (case hg => rfl); (case hr => first | (go_simp; done) | (go_simp; rfl)); intro gb hgb w8 hbox hb; have HS1 := Aside0.mk (IsSet.below HS.out hb); have HB1 := Aside0.mk (below_then HB.out HB.out.size hb); have BK := Aside0.mk hbox; have HN := Aside0.mk (show w.heap.size ≠ gb from fun e_ => by have := HS.out.lt; omega); have hcz0 : w8.cell? ⟨gb, 0, none⟩ = some (.int .i64 0) := (blk_cell BK.out 0).trans rfl; have hcz1 : w8.cell? ⟨gb, 1, none⟩ = some (.int .i64 0) := (blk_cell BK.out 1).trans rfl; have hcz2 : w8.cell? ⟨gb, 2, none⟩ = some (.int .i64 0) := (blk_cell BK.out 2).trans rfl; have hcz3 : w8.cell? ⟨gb, 3, none⟩ = some (.int .i64 0) := (blk_cell BK.out 3).trans rfl; have hfz0 := blk_frozen BK.out 0; have hfz1 := blk_frozen BK.out 1; have hfz2 := blk_frozen BK.out 2; have hfz3 := blk_frozen BK.out 3; have GE := Aside0.mk (show w.heap.size ≤ gb by have := HB.out.size; omega); clear hb hbox hgb) | (go_at_call 26; refine (ledger_check.calls f0 f1 f2 f3 v _ HV.out).mono ?_; rintro e w9 ⟨rfl, hb⟩; have HS2 := Aside0.mk (IsSet.below (IsSet.far (IsSet.far (IsSet.far (IsSet.far HS1.out HN.out _) HN.out _) HN.out _) HN.out _) hb); have HB2 := Aside0.mk (below_then (below_set (below_set (below_set (below_set HB1.out GE.out) GE.out) GE.out) GE.out) (by simp; exact HB1.out.size) hb); have hc9 : w9.cell? ⟨gb, 0, none⟩ = some (.int .i64 f0) := (hb.cell (p := ⟨gb, 0, none⟩) (by simp; exact blk_lt BK.out)).trans (by go_simp); clear hb) | (at_lookup; refine wpList_lookup_set rfl (.tmp 22) (.tmp 24) 44 rfl 3 4 Try.underlying3 Try.underlying44 Try.underlying4 (ledger_Right.zeroB _) w.heap.size k _ rfl HS2.out f0 rfl HW false HSB.out ?_) | (at_mapUpdate; refine wpList_update_set rfl (.tmp 26) (.tmp 28) (.const (.bool true)) 44 rfl 3 4 Try.underlying3 Try.underlying44 Try.underlying4 w.heap.size k _ rfl HS2.out (by unfold maxLen; omega) f0 rfl rfl HW ?_; intro w10 hs10 hg10; have HS3 := Aside0.mk hs10; have HB3 := Aside0.mk (HB2.out.grown hg10 HB2.out.size (fun j hj => by cases hj; exact Nat.le_refl _)); clear hs10 hg10))
            exact ⟨⟨k + 1, f0 :: seen, by omega, by go_num, HG, ⟨HS3.out.same (fun x => by simp only [List.contains_cons])⟩, HB3⟩, by simp [intOf]; omega⟩
        · rw [if_neg hz] at hg
          have hz1 : (v == 0) = false := beq_eq_false_iff_ne.mpr hz
          have hz2 : (v != 0) = true := bne_iff_ne.mpr hz
          clear hz
          subst hg
          go_wp2_with (first | ((with_reducible refine gate_dst (N := 5) rfl ?_); refine box_event ?hg (N := 5) ?hd (cs := #[.int .i64 0, .int .i64 0, .int .i64 0, .int .i64 0]) (t := 28) ?hr ?_; (case hd => rfl); (case hg => rfl); (case hr => first | (go_simp; done) | (go_simp; rfl)); intro gb hgb w8 hbox hb; have HB1 := Aside0.mk (below_then HB.out HB.out.size hb); have BK := Aside0.mk hbox; have hcz0 : w8.cell? ⟨gb, 0, none⟩ = some (.int .i64 0) := (blk_cell BK.out 0).trans rfl; have hcz1 : w8.cell? ⟨gb, 1, none⟩ = some (.int .i64 0) := (blk_cell BK.out 1).trans rfl; have hcz2 : w8.cell? ⟨gb, 2, none⟩ = some (.int .i64 0) := (blk_cell BK.out 2).trans rfl; have hcz3 : w8.cell? ⟨gb, 3, none⟩ = some (.int .i64 0) := (blk_cell BK.out 3).trans rfl; have hfz0 := blk_frozen BK.out 0; have hfz1 := blk_frozen BK.out 1; have hfz2 := blk_frozen BK.out 2; have hfz3 := blk_frozen BK.out 3; have GE := Aside0.mk (show w.heap.size ≤ gb by have := HB.out.size; omega); clear hb hbox hgb) | (go_at_call 26; refine (ledger_check.calls f0 f1 f2 f3 v _ HV.out).mono ?_; rintro e w9 ⟨rfl, hb⟩; have HB2 := Aside0.mk (below_then (below_set (below_set (below_set (below_set HB1.out GE.out) GE.out) GE.out) GE.out) (by simp; exact HB1.out.size) hb); clear hb))
          go_ret
          exact ⟨rfl, HB2.out⟩
      · have : l0.drop k = [] := List.drop_eq_nil_of_le (by omega)
        have hg := HG.out
        clear HG H
        rw [this] at hg
        simp only [ledger_Right.go] at hg
        subst hg
        clear this
        go_wp2
        go_ret
        exact ⟨rfl, HB.out⟩

end Go.Proofs.Ytjhmcepcealelaa.A
