/- Short words for the printed steps of a region: what has come up, told by a number's bits; a step with its plain checks filled in. No condition beyond those of the words that they stand for. -/
import Derived.Test.YtjlfaoaoinhebaaWTab
namespace Go.Proofs.YtjlfaoaoinhebaaW.PrintLast
open Go.Proofs.YtjlfaoaoinhebaaW.PrintWords (Aside0)
def bN (n m : Nat) : Array Bool := ((List.range n).map (fun i => Nat.testBit m i)).toArray
theorem sA_ {α : Type} (xs : List α) (i : Nat) (x : α) : xs.toArray.setIfInBounds i x = (xs.set i x).toArray := List.setIfInBounds_toArray xs i x
theorem sB_ {α : Type} (x y : α) (xs : List α) : (x :: xs).set 0 y = y :: xs := rfl
theorem sC_ {α : Type} (x y : α) (xs : List α) (i : Nat) : (x :: xs).set (i + 1) y = x :: xs.set i y := rfl
section
variable {P : Program} {ops : Array Oper} {Q : Exit → Act → World → Prop} {md : Region.Mode} {S : World → Prop} {ds : List Nat} {T : Bool × List (List Nat × List Nat)} {oi : Oper} {fuel : Nat} {l : Array Bool} {a : Act} {w : World}
theorem pu_ (v : Value) (i : Nat) (N : Option Tmp) (l' : Array Bool) (hi : ops[i]? = some oi) (hN : oi.dst = N) (hT : Aside0 (rtab md ops = T)) (hc : anyT T l.toList l'.toList i = true) (hQ : ∀ c a w, Q (.panic c) (a.put oi.dst v) w → Q (.panic c) a w)
    (hg : Region.wanted oi (yielded ops a.tmps) = true) (hy : ∀ w, (execOp a.eval oi).run P w = .ok (.value v) w) (a' : Act) (ha : a.put N v = a')
    (h : wpAnyLast P md ops Q S ds fuel l' a' w) : wpAnyLast P md ops Q S ds (fuel + 1) l a w := pure_ (i := i) (N := N) (v := v) (a' := a') l' hi hN (any_of hT.out hc) hQ (Or.inl ⟨hg, hy⟩) ha h
theorem pn_ (a' : Act) (i : Nat) (N : Option Tmp) (l' : Array Bool) (hi : ops[i]? = some oi) (hN : oi.dst = N) (hT : Aside0 (rtab md ops = T)) (hc : anyT T l.toList l'.toList i = true) (hQ : ∀ c a w, Q (.panic c) (a.put oi.dst undef) w → Q (.panic c) a w)
    (hg : Region.wanted oi (yielded ops a.tmps) = false) (ha : a.put N undef = a')
    (h : wpAnyLast P md ops Q S ds fuel l' a' w) : wpAnyLast P md ops Q S ds (fuel + 1) l a w := pure_ (i := i) (N := N) (v := undef) (a' := a') l' hi hN (any_of hT.out hc) hQ (Or.inr ⟨hg, rfl⟩) ha h
end
end Go.Proofs.YtjlfaoaoinhebaaW.PrintLast
