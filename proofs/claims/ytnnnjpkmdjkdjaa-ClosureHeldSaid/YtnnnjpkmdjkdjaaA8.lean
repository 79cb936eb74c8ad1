-- PRINTED by print.py (a twelfth state) out of the translation. Not trusted: Lean checks it.
import Derived.Test.YtnnnjpkmdjkdjaaA0
namespace Go.Proofs.Ytnnnjpkmdjkdjaa.A
open Go.RowKit Go.Proofs.YtnnnjpkmdjkdjaaW.PrintWords Go.Proofs.YtnnnjpkmdjkdjaaW.PrintLast Go.Proofs.YtnnnjpkmdjkdjaaW.PrintMore
attribute [local go_sem] max2_int min2_int max_two min_two max_three min_three max_four min_four   -- for this text's walks alone
set_option linter.unusedVariables false
set_option linter.unusedSimpArgs false

-- by hand: delete.tpl
open Go.Proofs.Ytnnnjpkmdjkdjaa.HDel
def api_Closure_34.f (l0 : List (S28)) (a1 : Int) (a2 : Int) : Option (List (S28)) := if 0 ≤ a1 ∧ a1 < (l0.length : Int) ∧ a2 = a1 + 1 then some (l0.eraseIdx a1.toNat) else none
set_option maxHeartbeats 4000000 in
set_option maxRecDepth 100000 in
theorem api_Closure_34.calls (P0_ : Nat → Prop) (u9000_ : Value) (l0 : List (S28)) (a1 : Int) (a2 : Int) (r : List (S28)) (w0 w : World) (hB : Below w0.heap.size w0 w) (ho0 : Kd.R k28 28 w w0.heap.size P0_ u9000_ l0) (h : api_Closure_34.f l0 a1 a2 = some r) :
    Calls Try.prog 34 #[u9000_, .int .i64 a1, .int .i64 a2] w fun e w' => ∃ v0_ : Value, e = .returned (v0_) ∧ Kd.R k28 28 w' w0.heap.size (fun k_ => (P0_ k_ ∨ w.heap.size ≤ k_)) v0_ r ∧ Below w0.heap.size w0 w' ∧ Kept w w' (fun k_ => P0_ k_) := by
  unfold api_Closure_34.f at h
  split at h
  · rename_i hc
    obtain ⟨h0, h1, h2⟩ := hc
    obtain ⟨i, rfl⟩ := Int.eq_ofNat_of_zero_le h0
    subst h2
    have HE := Aside0.mk (Option.some.inj h)
    clear h
    obtain ⟨g, cap, rfl, hbg, hlt, cells, hcell⟩ := Kd.R_form ho0 (by omega)
    obtain ⟨_, hcap, hC⟩ := Kd.R_reads' ho0
    have hm : l0.length ≤ 9223372036854775807 := hC.2.1
    have hi : i < l0.length := by omega
    have HO := Aside0.mk ho0
    have HB := Aside0.mk hB
    have HG := Aside0.mk (ho0.1 g rfl)
    have HBG := Aside0.mk hbg
    clear hB ho0 h0 h1 hC hcell cells hlt hbg
    obtain ⟨A, hA⟩ : ∃ A : Option Addr, A = (if cap = i + 1 then some (⟨g, 0, none⟩ : Addr) else (some (⟨g, 0, none⟩ : Addr)).map (·.add ((i + 1) * Kd.sz k28))) := ⟨_, rfl⟩
    have hA1 : (if cap = i + 1 then some (⟨g, 0, none⟩ : Addr) else some ⟨g, (i + 1) * 4, none⟩) = A := by rw [hA, show Kd.sz k28 = 4 from rfl]; by_cases hx : cap = i + 1 <;> simp [hx, Addr.add]
    have HA := Aside0.mk hA
    clear hA
    have hic : i ≤ cap := by omega
    have hic1 : i + 1 ≤ cap := by omega
    have hwr : IntKind.i64.wrap ((i : Int) + 1) = (i : Int) + 1 := by rw [IntKind.wrap_i64]; omega
    have hp0 : (0 : Int) ≤ (i : Int) + 1 := by omega
    have hp1 : (i : Int) + 1 ≤ (l0.length : Int) := by omega
    have hp2 : ((i : Int) + 1).toNat = i + 1 := by omega
    go_enter Try.func34, Try.ntmps34
    go_wp2
    go_region_law (refine Kd.R_delete_step k28 (w0 := w0) w0.heap.size rfl (.tmp 22) (.tmp 25) 22 28 rfl Try.underlying22 (by kernel_rfl) (g := g) (n := l0.length) (c := cap) (k := i) (m := l0.length - (i + 1)) (c2 := cap - (i + 1)) (A := A) (by simp [Act.eval, Act.put]; done) (by simp [Act.eval, Act.put]; done) HA.out rfl HO.out hi (below_drew HB.out) (by exact HB.out.size) ?_; intro w1 ho hb hg; have HO1 := Aside0.mk ho; have HB1 := Aside0.mk hb; have HK1 := Aside0.mk hg; clear ho hb hg)
    have hl1 : l0.length - 1 ≤ cap := by omega
    have hln : (((l0.length - 1 : Nat) : Int)).toNat = l0.length - 1 := by omega
    obtain ⟨i0, hi0, hz0⟩ := Option.map_eq_some_iff.1 info28
    injection hz0 with hz0 _
    obtain ⟨w2, hrun, ho2, hg2⟩ := HDel.clear_one (P := Try.prog) k28 22 28 i0 _ [.int .i64 0, .int .i64 0, .int .i64 0, .int .i64 0] 0 Try.underlying22 hi0 hz0 (by kernel_rfl) rfl (by intro v hv; simp only [List.mem_cons, List.not_mem_nil, or_false, or_self] at hv; subst hv; rfl) (g := g) (n := l0.length - 1) (off := (l0.length - 1) * 4) (c := cap) (c2 := cap - (l0.length - 1)) (k := l0.length - (l0.length - 1)) (by omega) (Nat.le_refl _) (by show (l0.length - 1) * 4 + 4 ≤ cap * 4; omega) HO1.out
    have HO2 := Aside0.mk ho2
    have HK2 := Aside0.mk hg2
    clear ho2 hg2 hz0 hi0
    go_wp2
    have he : l0.eraseIdx i = r := HE.out
    subst he
    go_ret
    exact ⟨_, rfl, Kd.R_mono HO2.out (fun _ hk => .inl hk), HB1.out.grown HK2.out HB1.out.size (fun k hk => by cases hk; exact HBG.out), Kept.of_grown HK2.out (Kept.of_grown HK1.out (Kept.refl _ _).drew (fun k hk => .inl (by cases hk; exact HG.out))) (fun k hk => .inl (by cases hk; exact HG.out))⟩
  · cases h

end Go.Proofs.Ytnnnjpkmdjkdjaa.A
