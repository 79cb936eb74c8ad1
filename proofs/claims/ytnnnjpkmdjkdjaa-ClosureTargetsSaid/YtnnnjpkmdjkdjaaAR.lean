/- What the laws' arguments stand for. -/
import Derived.Test.YtnnnjpkmdjkdjaaA0
import Derived.Test.YtnnnjpkmdjkdjaaHRow
import Derived.KernelRfl
namespace Go.Proofs.Ytnnnjpkmdjkdjaa.A
open Go.RowKit Go.Proofs.YtnnnjpkmdjkdjaaW.PrintWords Go.Proofs.Ytnnnjpkmdjkdjaa.HRow
set_option maxRecDepth 100000
def ok28 (x : S28) : Prop := (Lit.int .i64 x.f0).wf = true ∧ (Lit.int .i64 x.f1).wf = true ∧ (Lit.int .i64 x.f2).wf = true ∧ (Lit.int .i64 x.f3).wf = true
theorem op28 : Opens Try.prog k28 28 ok28 := by
  have h := opens_struct Try.underlying28 (opensF_cons (opens_int Try.underlying3) rfl (by kernel_rfl) (opensF_cons (opens_int Try.underlying3) rfl (by kernel_rfl) (opensF_cons (opens_int Try.underlying3) rfl (by kernel_rfl) (opensF_last (opens_int Try.underlying3) rfl (by kernel_rfl))))) (by kernel_rfl) (fun x : S28 => (x.f0, x.f1, x.f2, x.f3)) (fun y => (⟨y.1, y.2.1, y.2.2.1, y.2.2.2⟩ : S28)) (fun _ => rfl)
  exact h
def ok59 (x : S59) : Prop := (Lit.int .i64 x.f0).wf = true ∧ (Lit.int .i64 x.f1).wf = true
theorem op59 : Opens Try.prog k59 59 ok59 := by
  have h := opens_struct Try.underlying59 (opensF_cons (opens_int Try.underlying3) rfl (by kernel_rfl) (opensF_last (opens_int Try.underlying3) rfl (by kernel_rfl))) (by kernel_rfl) (fun x : S59 => (x.f0, x.f1)) (fun y => (⟨y.1, y.2⟩ : S59)) (fun _ => rfl)
  exact h
def ok76 (x : S76) : Prop := (Lit.int .i64 x.f0).wf = true ∧ (Lit.int .i64 x.f1).wf = true ∧ (Lit.int .i64 x.f2).wf = true ∧ (Lit.int .i64 x.f3).wf = true ∧ (Lit.int .i64 x.f4).wf = true ∧ (Lit.int .i64 x.f5).wf = true ∧ (Lit.int .i64 x.f6).wf = true ∧ (Lit.int .i64 x.f7).wf = true
theorem op76 : Opens Try.prog k76 76 ok76 := by
  have h := opens_struct Try.underlying76 (opensF_cons (opens_int Try.underlying3) rfl (by kernel_rfl) (opensF_cons (opens_int Try.underlying3) rfl (by kernel_rfl) (opensF_cons (opens_int Try.underlying3) rfl (by kernel_rfl) (opensF_cons (opens_int Try.underlying3) rfl (by kernel_rfl) (opensF_cons (opens_int Try.underlying3) rfl (by kernel_rfl) (opensF_cons (opens_int Try.underlying3) rfl (by kernel_rfl) (opensF_cons (opens_int Try.underlying3) rfl (by kernel_rfl) (opensF_last (opens_int Try.underlying3) rfl (by kernel_rfl))))))))) (by kernel_rfl) (fun x : S76 => (x.f0, x.f1, x.f2, x.f3, x.f4, x.f5, x.f6, x.f7)) (fun y => (⟨y.1, y.2.1, y.2.2.1, y.2.2.2.1, y.2.2.2.2.1, y.2.2.2.2.2.1, y.2.2.2.2.2.2.1, y.2.2.2.2.2.2.2⟩ : S76)) (fun _ => rfl)
  exact h
def ok56 (x : S56) : Prop := (Lit.int .i64 x.f0).wf = true ∧ (Lit.int .i64 x.f1).wf = true ∧ (Lit.int .i64 x.f2).wf = true ∧ (Lit.int .i64 x.f3).wf = true ∧ (Lit.int .i64 x.f4).wf = true ∧ (Lit.int .i64 x.f5).wf = true ∧ (Lit.int .i64 x.f6).wf = true
theorem op56 : Opens Try.prog k56 56 ok56 := by
  have h := opens_struct Try.underlying56 (opensF_cons (opens_int Try.underlying3) rfl (by kernel_rfl) (opensF_cons (opens_int Try.underlying3) rfl (by kernel_rfl) (opensF_cons (opens_int Try.underlying3) rfl (by kernel_rfl) (opensF_cons (opens_int Try.underlying3) rfl (by kernel_rfl) (opensF_cons (opens_int Try.underlying3) rfl (by kernel_rfl) (opensF_cons (opens_int Try.underlying3) rfl (by kernel_rfl) (opensF_last (opens_int Try.underlying3) rfl (by kernel_rfl)))))))) (by kernel_rfl) (fun x : S56 => (x.f0, x.f1, x.f2, x.f3, x.f4, x.f5, x.f6)) (fun y => (⟨y.1, y.2.1, y.2.2.1, y.2.2.2.1, y.2.2.2.2.1, y.2.2.2.2.2.1, y.2.2.2.2.2.2⟩ : S56)) (fun _ => rfl)
  exact h
def ok41 (x : S41) : Prop := ((∀ y ∈ x.f0, ok59 y) ∧ x.f0.length * 16 ≤ 140737488351232 ∧ x.f0.length ≤ 9223372036854775807) ∧ ((∀ y ∈ x.f1, ok76 y) ∧ x.f1.length * 64 ≤ 140737488351232 ∧ x.f1.length ≤ 9223372036854775807) ∧ ((∀ y ∈ x.f2, ok56 y) ∧ x.f2.length * 56 ≤ 140737488351232 ∧ x.f2.length ≤ 9223372036854775807) ∧ ((∀ y ∈ x.f3, (Lit.int .i64 y).wf = true) ∧ x.f3.length * 8 ≤ 140737488351232 ∧ x.f3.length ≤ 9223372036854775807)
theorem op41 : Opens Try.prog k41 41 ok41 := by
  have h := opens_struct Try.underlying41 (opensF_cons (opens_slice (B := 16) Try.underlying36 op59 (by kernel_rfl) (by kernel_rfl)) rfl (by kernel_rfl) (opensF_cons (opens_slice (B := 64) Try.underlying37 op76 (by kernel_rfl) (by kernel_rfl)) rfl (by kernel_rfl) (opensF_cons (opens_slice (B := 56) Try.underlying38 op56 (by kernel_rfl) (by kernel_rfl)) rfl (by kernel_rfl) (opensF_last (opens_slice (B := 8) Try.underlying39 (opens_int Try.underlying3) (by kernel_rfl) (by kernel_rfl)) rfl (by kernel_rfl))))) (by kernel_rfl) (fun x : S41 => (x.f0, x.f1, x.f2, x.f3)) (fun y => (⟨y.1, y.2.1, y.2.2.1, y.2.2.2⟩ : S41)) (fun _ => rfl)
  exact h
structure S30 where
  f0 : Int
  f1 : Int
  f2 : Int
end Go.Proofs.Ytnnnjpkmdjkdjaa.A
