/- The law BlastOthers returns true for every input that can be read as data, and leaves its arguments as they were; no condition beyond the row's own. -/
import Derived.Test.YtjlfaoaoinhebaaRows
import Derived.Test.YtjlfaoaoinhebaaAR
import Derived.Test.YtjlfaoaoinhebaaA35
import Derived.Test.YtjlfaoaoinhebaaPureBlastOthers
import Derived.WalkKit
import Derived.ProofKit
import Derived.OpenShut
import Derived.ShutString
import Derived.ChangeOld
import Derived.Below
import Derived.SizedLaws
namespace Go.Proofs.Ytjlfaoaoinhebaa.blastOthers
open Go.ChangeShapes Go.WideShapes Go.ChangeAt Go.RowKit
open Go.ChangeMaps (open_string shut_string)
open Go.Proofs.YtjlfaoaoinhebaaW.PrintWords Go.Proofs.Ytjlfaoaoinhebaa.HRow Go.Proofs.Ytjlfaoaoinhebaa.A
set_option linter.unusedVariables false
theorem own : ownKnob Try.prog.godebug = none := by kernel_rfl
theorem laidOut : laidOutB Try.prog = true := by kernel_rfl
set_option maxRecDepth 100000 in
set_option maxHeartbeats 1000000 in
theorem lifted (os : Os) (started : os.Started) (H : Type) (enc : TypeId × Value → H) :
    ReturnsInHanded {} Try.checked os 10 .any (Rows.blastOthersSpec.pre6 enc Try.prog Try.f10 Rows.blastOthersRow.domain false) (Rows.blastOthersSpec.post enc Try.prog Try.f10 false true false false) := by
  refine returnsInHanded_of_change_sized (C := Try.checked) own started (by kernel_rfl) Try.func10
    (ChangeSpec.witness6 (enc := enc) (C := Try.checked) false ⟨#[], #[(.slice none 0 0), (.slice none 0 0)], []⟩ 8 (by kernel_rfl) (by kernel_rfl) (by kernel_rfl) (by kernel_rfl)) ?_
  intro W base args ds gs before hval0 hW hcnd hsz0 _
  have hsz : (DataW.weightsEach Try.prog (Try.f10.params.toList ++ Rows.blastOthersSpec.plain.varTypes Try.prog) (ds ++ gs)).all (· ≤ reachBytes) = true := hsz0
  have hval : ∀ (j : Nat) t v, Try.f10.params[j]? = some t → args[j]? = some v → Value.okWide Try.prog W .any base t v := hval0
  have hW' := hW
  obtain ⟨p, q, hA0, hV, rfl, hfz, hnd⟩ := hW
  have hA : DataW.TrodAll enc Try.prog W 0 (fun _ => true) true Try.f10.params.toList args.toList ds p := hA0
  rw [Try.params10] at hA hval hsz
  obtain ⟨v0, vs0, d0, ds0, p0, q0, hargs, rfl, rfl, h0, r0⟩ := trodAll_cons hA
  obtain ⟨v1, vs1, d1, ds1, p1, q1, rfl, rfl, rfl, h1, r1⟩ := trodAll_cons r0
  obtain ⟨rfl, rfl, rfl⟩ := trodAll_nil r1
  obtain rfl : args = #[v0, v1] := by cases args; simp_all
  obtain ⟨rfl, rfl⟩ := trodVars_none hV
  obtain ⟨a0, len0, cap0, rfl⟩ := okWide_slice Try.underlying22 (hval 0 22 v0 rfl rfl)
  have k0 := h0
  have lt0 : ∀ x ∈ p0, x.block < W.heap.size := by obtain ⟨m, hm⟩ := k0; exact DataW.trod_lt m _ _ _ hm
  obtain ⟨l0, ⟨A0, c0, e0, hc0, hr0⟩, ok0⟩ : ∃ l : List (S30), (Kd.slice 30 k30).K W l [.slice a0 len0 cap0] ∧ ((∀ y ∈ l, ok30 y) ∧ l.length * 56 ≤ 140737488351232 ∧ l.length ≤ 9223372036854775807) := by
    obtain ⟨fuel, hf⟩ := h0
    exact (opens_slice (B := 56) Try.underlying22 op30 (by kernel_rfl) (by kernel_rfl)) _ enc W fuel _ _ (by simpa [Value.cells] using hf) (weights_of hsz (j := 0) rfl rfl)
  obtain ⟨rfl, rfl, rfl⟩ : a0 = A0 ∧ len0 = l0.length ∧ cap0 = c0 := by simpa using e0
  obtain ⟨a1, len1, cap1, rfl⟩ := okWide_slice Try.underlying44 (hval 1 44 v1 rfl rfl)
  have k1 := h1
  have lt1 : ∀ x ∈ p1, x.block < W.heap.size := by obtain ⟨m, hm⟩ := k1; exact DataW.trod_lt m _ _ _ hm
  obtain ⟨l1, ⟨A1, c1, e1, hc1, hr1⟩, ok1⟩ : ∃ l : List (S46), (Kd.slice 46 k46).K W l [.slice a1 len1 cap1] ∧ ((∀ y ∈ l, ok46 y) ∧ l.length * 64 ≤ 140737488351232 ∧ l.length ≤ 9223372036854775807) := by
    obtain ⟨fuel, hf⟩ := h1
    exact (opens_slice (B := 64) Try.underlying44 op46 (by kernel_rfl) (by kernel_rfl)) _ enc W fuel _ _ (by simpa [Value.cells] using hf) (weights_of hsz (j := 1) rfl rfl)
  obtain ⟨rfl, rfl, rfl⟩ : a1 = A1 ∧ len1 = l1.length ∧ cap1 = c1 := by simpa using e1
  obtain ⟨k, hpure⟩ := Pure.BlastOthers l0 l1 ok0 ok1
  clear hA0 hval0 hsz0 hsz
  refine (skiarealaw51_BlastOthers.calls k (fun _ => True) _ _ l0 _ _ l1 true W (Kd.V_mk hc0 (Kd.F_mono (Kd.C_F (show Kd.Heap k30 from Kd.heap_iso _ (Kd.heap_pair (Kd.heap_int .i64) (Kd.heap_pair (Kd.heap_int .i64) (Kd.heap_pair (Kd.heap_int .i64) (Kd.heap_pair (Kd.heap_int .i64) (Kd.heap_pair (Kd.heap_int .i64) (show Kd.Heap k28 from Kd.heap_iso _ (Kd.heap_pair (Kd.heap_int .i64) (Kd.heap_int .i64))))))))) hr0) (fun _ _ => trivial))) hr1 hc1 hpure).mono fun e W' hh => ?_
  obtain ⟨he, bel⟩ := hh
  subst he
  exact ⟨_, rfl, _, _, _, [], _, [], hW', trodAll_mk1 (shut_bool Try.underlying4 _), (trodAll_cons_mk (Below.trod laidOut (by kernel_rfl) (of_decide_eq_true (by kernel_rfl)) k0 bel lt0) (trodAll_cons_mk (Below.trod laidOut (by kernel_rfl) (of_decide_eq_true (by kernel_rfl)) k1 bel lt1) trodAll_mk0)), rfl, bel.frame _, fun h => by cases h⟩
theorem over : Rows.blastOthersRow.holds Try.pinned (OpenSpec.ofChange Rows.blastOthersSpec) :=
  OpenClaim.holds_of_wide 10 Try.f10 rfl rfl rfl rfl rfl rfl rfl ⟨rfl, rfl, rfl, rfl, rfl⟩ rfl rfl rfl rfl rfl (by kernel_rfl) Try.func10 (by kernel_rfl)
    (of_decide_eq_true (by kernel_rfl)) (by unfold Func.isWrapper; first | (rw [if_pos (by decide +kernel)]; kernel_rfl) | (rw [if_neg (by decide +kernel)]; exact ⟨rfl, rfl⟩))
    (fun os started H enc _ => lifted os started H enc)
theorem proved : Rows.BlastOthersSaid := over
#print axioms proved
end Go.Proofs.Ytjlfaoaoinhebaa.blastOthers
namespace Go.Proofs.Ytjlfaoaoinhebaa
/-- The row, under a short name, for the claim. -/
theorem blastOthers_holds : Rows.BlastOthersSaid := blastOthers.proved
end Go.Proofs.Ytjlfaoaoinhebaa
