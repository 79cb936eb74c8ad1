/- Small words for plain proofs about printed functions: an answer at all great numbers of rounds. -/
import Derived.Test.YtjlfaoaoinhebaaWWords
namespace Go.Proofs.Ytjlfaoaoinhebaa.HEv
open Go.RowKit Go.Proofs.YtjlfaoaoinhebaaW.PrintWords
set_option linter.unusedVariables false
section
variable {α β : Type} {r : α}
theorem ev_some {a : α} (h : a = r) : Ev (fun _ => some a) r := by subst h; exact Ev.now _
theorem ev_if_pos {c : Prop} [Decidable c] {g f : Nat → Option α} (h : c) (k : Ev g r) : Ev (fun n => if c then g n else f n) r := Ev.congr (fun n => if_pos h) k
theorem ev_if_neg {c : Prop} [Decidable c] {g f : Nat → Option α} (h : ¬ c) (k : Ev f r) : Ev (fun n => if c then g n else f n) r := Ev.congr (fun n => if_neg h) k
theorem ev_bind {g : Nat → Option β} {f : Nat → β → Option α} {a : β} (h : Ev g a) (k : Ev (fun n => f n a) r) : Ev (fun n => (g n).bind (f n)) r := Ev.bind h k
theorem ev_bind_some {o : Option β} {f : Nat → β → Option α} {a : β} (h : o = some a) (k : Ev (fun n => f n a) r) : Ev (fun n => o.bind (f n)) r := Ev.congr (fun n => by rw [h]; rfl) k
end
theorem wrap_small {x : Int} (h0 : -9223372036854775808 ≤ x) (h1 : x ≤ 9223372036854775807) : wrap64 x = x := by
  unfold wrap64
  omega
theorem wrap_next {i : Nat} (h : i ≤ 4611686018427387904) : wrap64 ((i : Int) + 1) = ((i + 1 : Nat) : Int) := by
  rw [wrap_small (by omega) (by omega)]
  omega
end Go.Proofs.Ytjlfaoaoinhebaa.HEv
