/- The law ClosureTargets returns true for every input that can be read as data, and leaves its arguments as they were; no condition beyond the row's own. -/
import Derived.Test.YtnnnjpkmdjkdjaaRows
import Derived.Test.YtnnnjpkmdjkdjaaAR
import Derived.Test.YtnnnjpkmdjkdjaaA27
import Derived.Test.YtnnnjpkmdjkdjaaPureClosureTargets
import Derived.WalkKit
import Derived.ProofKit
import Derived.OpenShut
import Derived.ShutString
import Derived.ChangeOld
import Derived.Below
import Derived.SizedLaws
namespace Go.Proofs.Ytnnnjpkmdjkdjaa.closureTargets
open Go.ChangeShapes Go.WideShapes Go.ChangeAt Go.RowKit
open Go.ChangeMaps (open_string shut_string)
open Go.Proofs.YtnnnjpkmdjkdjaaW.PrintWords Go.Proofs.Ytnnnjpkmdjkdjaa.HRow Go.Proofs.Ytnnnjpkmdjkdjaa.A
set_option linter.unusedVariables false
theorem own : ownKnob Try.prog.godebug = none := by kernel_rfl
theorem laidOut : laidOutB Try.prog = true := by kernel_rfl
set_option maxRecDepth 100000 in
set_option maxHeartbeats 1000000 in
theorem lifted (os : Os) (started : os.Started) (H : Type) (enc : TypeId × Value → H) :
    ReturnsInHanded {} Try.checked os 8 .any (Rows.closureTargetsSpec.pre6 enc Try.prog Try.f8 Rows.closureTargetsRow.domain false) (Rows.closureTargetsSpec.post enc Try.prog Try.f8 false true false false) := by
  refine returnsInHanded_of_change_sized (C := Try.checked) own started (by kernel_rfl) Try.func8
    (ChangeSpec.witness6 (enc := enc) (C := Try.checked) false ⟨#[], #[(.agg #[(.slice none 0 0), (.slice none 0 0), (.slice none 0 0), (.slice none 0 0)]), (.slice none 0 0), (.agg #[(.int .i64 0), (.int .i64 0), (.int .i64 0), (.int .i64 0)])], []⟩ 8 (by kernel_rfl) (by kernel_rfl) (by kernel_rfl) (by kernel_rfl)) ?_
  intro W base args ds gs before hval0 hW hcnd hsz0 _
  have hsz : (DataW.weightsEach Try.prog (Try.f8.params.toList ++ Rows.closureTargetsSpec.plain.varTypes Try.prog) (ds ++ gs)).all (· ≤ reachBytes) = true := hsz0
  have hval : ∀ (j : Nat) t v, Try.f8.params[j]? = some t → args[j]? = some v → Value.okWide Try.prog W .any base t v := hval0
  have hW' := hW
  obtain ⟨p, q, hA0, hV, rfl, hfz, hnd⟩ := hW
  have hA : DataW.TrodAll enc Try.prog W 0 (fun _ => true) true Try.f8.params.toList args.toList ds p := hA0
  rw [Try.params8] at hA hval hsz
  obtain ⟨v0, vs0, d0, ds0, p0, q0, hargs, rfl, rfl, h0, r0⟩ := trodAll_cons hA
  obtain ⟨v1, vs1, d1, ds1, p1, q1, rfl, rfl, rfl, h1, r1⟩ := trodAll_cons r0
  obtain ⟨v2, vs2, d2, ds2, p2, q2, rfl, rfl, rfl, h2, r2⟩ := trodAll_cons r1
  obtain ⟨rfl, rfl, rfl⟩ := trodAll_nil r2
  obtain rfl : args = #[v0, v1, v2] := by cases args; simp_all
  obtain ⟨rfl, rfl⟩ := trodVars_none hV
  obtain ⟨cs0, rfl, _⟩ := okWide_struct Try.underlying41 (hval 0 41 v0 rfl rfl)
  have k0 := h0
  have lt0 : ∀ x ∈ p0, x.block < W.heap.size := by obtain ⟨m, hm⟩ := k0; exact DataW.trod_lt m _ _ _ hm
  obtain ⟨s0, hk0, ok0⟩ : ∃ s : S41, k41.K W s cs0.toList ∧ ok41 s := by
    obtain ⟨fuel, hf⟩ := h0
    exact op41 _ enc W fuel _ _ (by simpa [Value.cells] using hf) (weights_of hsz (j := 0) rfl rfl)
  obtain ⟨A0_0, c0_0, A0_1, c0_1, A0_2, c0_2, A0_3, c0_3, e0, hc0_0, hr0_0, hc0_1, hr0_1, hc0_2, hr0_2, hc0_3, hr0_3⟩ := k41_open hk0
  obtain rfl : cs0 = #[.slice A0_0 s0.f0.length c0_0, .slice A0_1 s0.f1.length c0_1, .slice A0_2 s0.f2.length c0_2, .slice A0_3 s0.f3.length c0_3] := by
    apply Array.toList_inj.1
    rw [e0]
  obtain ⟨a1, len1, cap1, rfl⟩ := okWide_slice Try.underlying22 (hval 1 22 v1 rfl rfl)
  have k1 := h1
  have lt1 : ∀ x ∈ p1, x.block < W.heap.size := by obtain ⟨m, hm⟩ := k1; exact DataW.trod_lt m _ _ _ hm
  obtain ⟨l1, ⟨A1, c1, e1, hc1, hr1⟩, ok1⟩ : ∃ l : List (S28), (Kd.slice 28 k28).K W l [.slice a1 len1 cap1] ∧ ((∀ y ∈ l, ok28 y) ∧ l.length * 32 ≤ 140737488351232 ∧ l.length ≤ 9223372036854775807) := by
    obtain ⟨fuel, hf⟩ := h1
    exact (opens_slice (B := 32) Try.underlying22 op28 (by kernel_rfl) (by kernel_rfl)) _ enc W fuel _ _ (by simpa [Value.cells] using hf) (weights_of hsz (j := 1) rfl rfl)
  obtain ⟨rfl, rfl, rfl⟩ : a1 = A1 ∧ len1 = l1.length ∧ cap1 = c1 := by simpa using e1
  obtain ⟨cs2, rfl, _⟩ := okWide_struct Try.underlying28 (hval 2 28 v2 rfl rfl)
  have k2 := h2
  have lt2 : ∀ x ∈ p2, x.block < W.heap.size := by obtain ⟨m, hm⟩ := k2; exact DataW.trod_lt m _ _ _ hm
  obtain ⟨s2, hk2, ok2⟩ : ∃ s : S28, k28.K W s cs2.toList ∧ ok28 s := by
    obtain ⟨fuel, hf⟩ := h2
    exact op28 _ enc W fuel _ _ (by simpa [Value.cells] using hf) (weights_of hsz (j := 2) rfl rfl)
  have e2 := k28_open hk2
  obtain rfl : cs2 = #[.int .i64 (s2.f0), .int .i64 (s2.f1), .int .i64 (s2.f2), .int .i64 (s2.f3)] := by
    apply Array.toList_inj.1
    rw [e2]
  obtain ⟨k, hpure⟩ := Pure.ClosureTargets s0 l1 s2 ok0 ok1 ok2
  clear hA0 hval0 hsz0 hsz
  refine (skiarealaw52_ClosureTargets.calls k _ _ (s0.f0) _ _ (s0.f1) _ _ (s0.f2) _ _ (s0.f3) _ _ l1 (s2.f0) (s2.f1) (s2.f2) (s2.f3) true W hr0_0 hc0_0 hr0_1 hc0_1 hr0_2 hc0_2 hr0_3 hc0_3 hr1 hc1 hpure).mono fun e W' hh => ?_
  obtain ⟨he, bel⟩ := hh
  subst he
  exact ⟨_, rfl, _, _, _, [], _, [], hW', trodAll_mk1 (shut_bool Try.underlying4 _), (trodAll_cons_mk (Below.trod laidOut (by kernel_rfl) (of_decide_eq_true (by kernel_rfl)) k0 bel lt0) (trodAll_cons_mk (Below.trod laidOut (by kernel_rfl) (of_decide_eq_true (by kernel_rfl)) k1 bel lt1) (trodAll_cons_mk (Below.trod laidOut (by kernel_rfl) (of_decide_eq_true (by kernel_rfl)) k2 bel lt2) trodAll_mk0))), rfl, bel.frame _, fun h => by cases h⟩
theorem over : Rows.closureTargetsRow.holds Try.pinned (OpenSpec.ofChange Rows.closureTargetsSpec) :=
  OpenClaim.holds_of_wide 8 Try.f8 rfl rfl rfl rfl rfl rfl rfl ⟨rfl, rfl, rfl, rfl, rfl⟩ rfl rfl rfl rfl rfl (by kernel_rfl) Try.func8 (by kernel_rfl)
    (of_decide_eq_true (by kernel_rfl)) (by unfold Func.isWrapper; first | (rw [if_pos (by decide +kernel)]; kernel_rfl) | (rw [if_neg (by decide +kernel)]; exact ⟨rfl, rfl⟩))
    (fun os started H enc _ => lifted os started H enc)
theorem proved : Rows.ClosureTargetsSaid := over
#print axioms proved
end Go.Proofs.Ytnnnjpkmdjkdjaa.closureTargets
namespace Go.Proofs.Ytnnnjpkmdjkdjaa
/-- The row, under a short name, for the claim. -/
theorem closureTargets_holds : Rows.ClosureTargetsSaid := closureTargets.proved
end Go.Proofs.Ytnnnjpkmdjkdjaa
