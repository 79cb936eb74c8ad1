/- What the laws' arguments stand for. -/
import Derived.Test.YtnnnjpkmdjkdjaaA0
import Derived.Test.YtnnnjpkmdjkdjaaHRow
import Derived.KernelRfl
namespace Go.Proofs.Ytnnnjpkmdjkdjaa.A
open Go.RowKit Go.Proofs.YtnnnjpkmdjkdjaaW.PrintWords Go.Proofs.Ytnnnjpkmdjkdjaa.HRow
set_option maxRecDepth 100000
def ok28 (x : S28) : Prop := (Lit.int .i64 x.f0).wf = true ∧ (Lit.int .i64 x.f1).wf = true ∧ (Lit.int .i64 x.f2).wf = true ∧ (Lit.int .i64 x.f3).wf = true
theorem op28 : Opens Try.prog k28 28 ok28 := by
  have h := opens_struct Try.underlying28 (opensF_cons (opens_int Try.underlying3) rfl (by kernel_rfl) (opensF_cons (opens_int Try.underlying3) rfl (by kernel_rfl) (opensF_cons (opens_int Try.underlying3) rfl (by kernel_rfl) (opensF_last (opens_int Try.underlying3) rfl (by kernel_rfl))))) (by kernel_rfl) (fun x : S28 => (x.f0, x.f1, x.f2, x.f3)) (fun y => (⟨y.1, y.2.1, y.2.2.1, y.2.2.2⟩ : S28)) (fun _ => rfl)
  exact h
structure S30 where
  f0 : Int
  f1 : Int
  f2 : Int
def k30 : Kd S30 := Kd.iso (Kd.pair (Kd.int .i64) (Kd.pair (Kd.int .i64) (Kd.int .i64))) (fun x : S30 => (x.f0, x.f1, x.f2))
theorem k30_open {w : World} {x : S30} {cs : List Value} (h : k30.K w x cs) : cs = [.int .i64 x.f0, .int .i64 x.f1, .int .i64 x.f2] := by
  obtain ⟨_, _, rfl, rfl, ⟨_, _, rfl, rfl, rfl⟩⟩ := h
  exact rfl
def ok30 (x : S30) : Prop := (Lit.int .i64 x.f0).wf = true ∧ (Lit.int .i64 x.f1).wf = true ∧ (Lit.int .i64 x.f2).wf = true
theorem op30 : Opens Try.prog k30 30 ok30 := by
  have h := opens_struct Try.underlying30 (opensF_cons (opens_int Try.underlying3) rfl (by kernel_rfl) (opensF_cons (opens_int Try.underlying3) rfl (by kernel_rfl) (opensF_last (opens_int Try.underlying3) rfl (by kernel_rfl)))) (by kernel_rfl) (fun x : S30 => (x.f0, x.f1, x.f2)) (fun y => (⟨y.1, y.2.1, y.2.2⟩ : S30)) (fun _ => rfl)
  exact h
def ok50 (x : S50) : Prop := True ∧ ok28 x.f1
theorem op50 : Opens Try.prog k50 50 ok50 := by
  have h := opens_struct Try.underlying50 (opensF_cons (opens_bool Try.underlying4) rfl (by kernel_rfl) (opensF_last op28 rfl (by kernel_rfl))) (by kernel_rfl) (fun x : S50 => (x.f0, x.f1)) (fun y => (⟨y.1, y.2⟩ : S50)) (fun _ => rfl)
  exact h
end Go.Proofs.Ytnnnjpkmdjkdjaa.A
