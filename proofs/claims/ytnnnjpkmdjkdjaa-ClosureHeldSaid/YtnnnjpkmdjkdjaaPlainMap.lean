/- The closures' plain laws: the reference's Right of a map answers at all; a run of the map; closed targets. -/
import Derived.Test.YtnnnjpkmdjkdjaaA0
import Derived.Test.YtnnnjpkmdjkdjaaA12
import Derived.Test.YtnnnjpkmdjkdjaaA13
import Derived.Test.YtnnnjpkmdjkdjaaA14
import Derived.Test.YtnnnjpkmdjkdjaaA20
import Derived.Test.YtnnnjpkmdjkdjaaA21
import Derived.Test.YtnnnjpkmdjkdjaaA22
import Derived.Test.YtnnnjpkmdjkdjaaA23
import Derived.Test.YtnnnjpkmdjkdjaaA24
import Derived.Test.YtnnnjpkmdjkdjaaPlain
namespace Go.Proofs.Ytnnnjpkmdjkdjaa.Plain
open Go.RowKit Go.Proofs.YtnnnjpkmdjkdjaaW.PrintWords Go.Proofs.Ytnnnjpkmdjkdjaa.A Go.Proofs.Ytnnnjpkmdjkdjaa.HEv
set_option linter.unusedVariables false
set_option linter.unusedSimpArgs false

section
variable {α β : Type}
end

def shut (l : List S28) (a b : Int) : Bool := l.any fun x => x.f0 == a && x.f1 == b
theorem shut_ge (a b : Int) : ∀ (l : List S28) (i : Nat), 0 ≤ closure_closed.idx (closure_closed.pr a b) i l ↔ shut l a b = true
  | [], i => by
    have e1 : closure_closed.idx (closure_closed.pr a b) i [] = -1 := rfl
    have e2 : shut [] a b = false := rfl
    rw [e1, e2]
    simp
  | x :: xs, i => by
    have e1 : closure_closed.idx (closure_closed.pr a b) i (x :: xs) = if closure_closed.pr a b x = true then (i : Int) else closure_closed.idx (closure_closed.pr a b) (i + 1) xs := rfl
    have e2 : shut (x :: xs) a b = (closure_closed.pr a b x || shut xs a b) := rfl
    rw [e1, e2]
    by_cases h : closure_closed.pr a b x = true
    · rw [if_pos h, h]
      simp
    · rw [if_neg h, Bool.eq_false_iff.2 h, Bool.false_or]
      exact shut_ge a b xs (i + 1)
theorem closed_eq (l : List S28) (a b : Int) : closure_closed.f l a b = some (shut l a b) := by
  refine congrArg some ?_
  rw [Bool.eq_iff_iff, decide_eq_true_eq]
  exact shut_ge a b l 0
end Go.Proofs.Ytnnnjpkmdjkdjaa.Plain
