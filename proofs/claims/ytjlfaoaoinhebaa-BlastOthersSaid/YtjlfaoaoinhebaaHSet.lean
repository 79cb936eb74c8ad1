/- Words for a set that a call keeps in a map from int to bool: its making, look-up, store, and the round over its keys. -/
import Derived.Test.YtjlfaoaoinhebaaWLast
import Derived.Test.YtjlfaoaoinhebaaWWords
import Derived.Test.YtjlfaoaoinhebaaWMore
import Derived.Maps.OwnSet
import Derived.Maps.OwnOps
import Derived.Maps.RangeWalk
import Derived.Deep.RegionLaw
import Derived.WalkSpells
namespace Go.Proofs.Ytjlfaoaoinhebaa.HSet
open Go.RowKit Go.Maps
set_option linter.unusedVariables false

/-- Block b is a map of at most n entries, each true; its keys are just the numbers of which S says true. -/
def IsSet (P : Program) (K E : TypeId) (w : World) (b n : Nat) (S : Int → Bool) : Prop :=
  ∃ D : DataW Unit, w.ownsMap P K (plainElem P E) b n D ∧ (∀ x, D.atKey (.int .i64 x) (.lit (.bool false)) = .lit (.bool (S x))) ∧ ∀ x, Maps.has D (.int .i64 x) = S x

theorem IsSet.kept {P : Program} {K E : TypeId} {w w' : World} {b n : Nat} {S : Int → Bool} {row : Option Nat} (h : IsSet P K E w b n S) (hg : w.grownBy w' row) (hne : some b ≠ row) : IsSet P K E w' b n S := by
  obtain ⟨D, h1, h2, h3⟩ := h
  exact ⟨D, h1.kept hg hne, h2, h3⟩
theorem IsSet.below {P : Program} {K E : TypeId} {w w' : World} {b n : Nat} {S : Int → Bool} (h : IsSet P K E w b n S) (hb : Below w.heap.size w w') : IsSet P K E w' b n S :=
  h.kept (Go.Proofs.YtjlfaoaoinhebaaW.PrintWords.grown_of_below hb none) (by simp)
theorem IsSet.alloc {P : Program} {K E : TypeId} {w : World} {b n : Nat} {S : Int → Bool} (h : IsSet P K E w b n S) (o : Obj) : IsSet P K E (w.alloc o) b n S := h.kept (World.grownBy_alloc w o none) (by simp)
theorem IsSet.mono {P : Program} {K E : TypeId} {w : World} {b n n' : Nat} {S : Int → Bool} (h : IsSet P K E w b n S) (hn : n ≤ n') : IsSet P K E w b n' S := by
  obtain ⟨D, h1, h2, h3⟩ := h
  exact ⟨D, h1.mono hn, h2, h3⟩
theorem IsSet.put {P : Program} {K E : TypeId} {D : DataW Unit} {S : Int → Bool} (hD : Maps.IsMap D) (h2 : ∀ x, D.atKey (.int .i64 x) (.lit (.bool false)) = .lit (.bool (S x))) (h3 : ∀ x, Maps.has D (.int .i64 x) = S x) (y : Int) :
    (∀ x, (D.put (.int .i64 y) (.lit (.bool true))).atKey (.int .i64 x) (.lit (.bool false)) = .lit (.bool (x == y || S x))) ∧ ∀ x, Maps.has (D.put (.int .i64 y) (.lit (.bool true))) (.int .i64 x) = (x == y || S x) := by
  constructor <;> intro x <;> by_cases h : x = y
  · subst h
    rw [Maps.atKey_put_same hD (show WideAt.IsKeyLit (.int .i64 x) from trivial)]
    simp
  · rw [Maps.atKey_put_other (by intro e; injection e with _ e; exact h e), h2]
    simp [h]
  · subst h
    rw [Maps.has_put_same hD (show WideAt.IsKeyLit (.int .i64 x) from trivial)]
    simp
  · rw [Maps.has_put_other (by intro e; injection e with _ e; exact h e), h3]
    simp [h]

section
variable {P : Program} {w : World} {ops : Array Oper} {rest : List Oper} {o : Oper} {a : Act} {Q : Exit → Act → World → Prop}

end
end Go.Proofs.Ytjlfaoaoinhebaa.HSet
