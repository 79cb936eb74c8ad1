/- Words for a set that a call keeps in a map from int to bool: its making, look-up, store, and the round over its keys. -/
import Derived.Maps.OwnSet
import Derived.Maps.OwnOps
import Derived.Maps.RangeWalk
import Derived.Deep.RegionLaw
import Derived.WalkSpells
import Derived.Test.YtjhmcepcealelaaWLast
import Derived.Test.YtjhmcepcealelaaWWords
import Derived.Test.YtjhmcepcealelaaWMore
namespace Go.Proofs.Ytjhmcepcealelaa.HSet
open Go.RowKit Go.Maps
set_option linter.unusedVariables false

theorem plainElem_bool_inv {H : Type} {P : Program} {e : TypeId} (he : P.underlying e = some .bool) {v : Value} {z : DataW H × List MemPlace} (h : plainElem P e v = some z) : ∃ x, v = .bool x ∧ z = (.lit (.bool x), []) := by
  unfold plainElem at h
  rw [he] at h
  cases v <;> simp at h
  obtain rfl := h
  exact ⟨_, rfl, rfl⟩

/-- Block b is a map of at most n entries, each true; its keys are just the numbers of which S says true. -/
def IsSet (P : Program) (K E : TypeId) (w : World) (b n : Nat) (S : Int → Bool) : Prop :=
  ∃ D : DataW Unit, w.ownsMap P K (plainElem P E) b n D ∧ (∀ x, D.atKey (.int .i64 x) (.lit (.bool false)) = .lit (.bool (S x))) ∧ ∀ x, Maps.has D (.int .i64 x) = S x

theorem IsSet.kept {P : Program} {K E : TypeId} {w w' : World} {b n : Nat} {S : Int → Bool} {row : Option Nat} (h : IsSet P K E w b n S) (hg : w.grownBy w' row) (hne : some b ≠ row) : IsSet P K E w' b n S := by
  obtain ⟨D, h1, h2, h3⟩ := h
  exact ⟨D, h1.kept hg hne, h2, h3⟩
theorem IsSet.lt {P : Program} {K E : TypeId} {w : World} {b n : Nat} {S : Int → Bool} (h : IsSet P K E w b n S) : b < w.heap.size := by
  obtain ⟨D, h1, _⟩ := h
  exact h1.lt
theorem IsSet.below {P : Program} {K E : TypeId} {w w' : World} {b n : Nat} {S : Int → Bool} (h : IsSet P K E w b n S) (hb : Below w.heap.size w w') : IsSet P K E w' b n S :=
  h.kept (Go.Proofs.YtjhmcepcealelaaW.PrintWords.grown_of_below hb none) (by simp)
theorem IsSet.alloc {P : Program} {K E : TypeId} {w : World} {b n : Nat} {S : Int → Bool} (h : IsSet P K E w b n S) (o : Obj) : IsSet P K E (w.alloc o) b n S := h.kept (World.grownBy_alloc w o none) (by simp)
theorem IsSet.move {P : Program} {K E : TypeId} {w w' : World} {b n : Nat} {S : Int → Bool} (h : IsSet P K E w b n S) (hm : w'.heap[b]? = w.heap[b]?) : IsSet P K E w' b n S := by
  obtain ⟨D, ⟨es, clock, hb, r⟩, h2, h3⟩ := h
  exact ⟨D, ⟨es, clock, hm.trans hb, r⟩, h2, h3⟩
theorem IsSet.far {P : Program} {K E : TypeId} {w : World} {b n : Nat} {S : Int → Bool} (h : IsSet P K E w b n S) {p : Addr} (hne : b ≠ p.block) (u : Value) : IsSet P K E (w.setCell p u) b n S := h.move (Below.heap_setCell w p u b hne)
theorem IsSet.mono {P : Program} {K E : TypeId} {w : World} {b n n' : Nat} {S : Int → Bool} (h : IsSet P K E w b n S) (hn : n ≤ n') : IsSet P K E w b n' S := by
  obtain ⟨D, h1, h2, h3⟩ := h
  exact ⟨D, h1.mono hn, h2, h3⟩
theorem IsSet.same {P : Program} {K E : TypeId} {w : World} {b n : Nat} {S S' : Int → Bool} (h : IsSet P K E w b n S) (hS : ∀ x, S x = S' x) : IsSet P K E w b n S' := by
  have : S = S' := funext hS
  exact this ▸ h
theorem IsSet.made (P : Program) (K E : TypeId) (w : World) : IsSet P K E (w.alloc (.map #[] 0)) w.heap.size 0 (fun _ => false) :=
  ⟨.map [], World.ownsMap_made w P K _, fun _ => rfl, fun _ => rfl⟩

theorem IsSet.put {P : Program} {K E : TypeId} {D : DataW Unit} {S : Int → Bool} (hD : Maps.IsMap D) (h2 : ∀ x, D.atKey (.int .i64 x) (.lit (.bool false)) = .lit (.bool (S x))) (h3 : ∀ x, Maps.has D (.int .i64 x) = S x) (y : Int) :
    (∀ x, (D.put (.int .i64 y) (.lit (.bool true))).atKey (.int .i64 x) (.lit (.bool false)) = .lit (.bool (x == y || S x))) ∧ ∀ x, Maps.has (D.put (.int .i64 y) (.lit (.bool true))) (.int .i64 x) = (x == y || S x) := by
  constructor <;> intro x <;> by_cases h : x = y
  · subst h
    rw [Maps.atKey_put_same hD (show WideAt.IsKeyLit (.int .i64 x) from trivial)]
    simp
  · rw [Maps.atKey_put_other (by intro e; injection e with _ e; exact h e), h2]
    simp [h]
  · subst h
    rw [Maps.has_put_same hD (show WideAt.IsKeyLit (.int .i64 x) from trivial)]
    simp
  · rw [Maps.has_put_other (by intro e; injection e with _ e; exact h e), h3]
    simp [h]

section
variable {P : Program} {w : World} {ops : Array Oper} {rest : List Oper} {o : Oper} {a : Act} {Q : Exit → Act → World → Prop}

/-- 'm[k]'. -/
theorem wpList_lookup_set (hg : o.guard = none) (m x : Operand) (t : TypeId) (hop : o.op = Op.lookup t m x false)
    (k e : TypeId) (hk : P.underlying k = some (.int .i64)) (ht : P.underlying t = some (.map k e)) (he : P.underlying e = some .bool) (hz : (zeroValue e).run P w = .ok (.bool false) w) (b n : Nat) (S : Int → Bool)
    (hm : a.eval m = .map (some b)) (hS : IsSet P k e w b n S) (y : Int) (hx : a.eval x = .int .i64 y) (hy : (Lit.int .i64 y).wf = true) (c : Bool) (hc : S y = c)
    (hK : wpList P ops Q rest (a.put o.dst (.bool c)) w) : wpList P ops Q (o :: rest) a w := by
  refine wpList_plain hg fun K' hK' => ?_
  obtain ⟨D, h1, h2, _⟩ := hS
  obtain ⟨v, ps, hrun, hv⟩ := h1.lookup (int_keyed hk) ht hz (plainElem_bool he false) (keyOf_int_mk hk hy)
  rw [h2] at hv
  rw [hc] at hv
  obtain ⟨c', rfl, hc'⟩ := plainElem_bool_inv he hv
  have hc1 := congrArg Prod.fst hc'
  have hc2 : c = c' := by
    injection hc1 with hc1
    injection hc1
  subst hc2
  unfold Oper.wp
  simp [execOp, hop, hm, hx, hrun, Result.andThen]
  exact hK' _ _ hK

theorem set_update {t k e : TypeId} (hk : P.underlying k = some (.int .i64)) (ht : P.underlying t = some (.map k e)) (he : P.underlying e = some .bool) {b n : Nat} {S : Int → Bool} (hS : IsSet P k e w b n S) (hn : n < maxLen) (y : Int) (hy : (Lit.int .i64 y).wf = true) :
    ∃ w', (Instr.mapUpdate t (.map (some b)) (.int .i64 y) (.bool true)).run P w = .ok () w' ∧ IsSet P k e w' b (n + 1) (fun x => x == y || S x) ∧ w.grownBy w' (some b) := by
  obtain ⟨D, h1, h2, h3⟩ := hS
  obtain ⟨w', hrun, hown, hg⟩ := h1.update (int_keyed hk) ht hn (keyOf_int_mk hk hy) (plainElem_bool he true)
  have h4 := IsSet.put (P := P) (K := k) (E := e) h1.isMap h2 h3 y
  exact ⟨w', hrun, ⟨_, hown, h4.1, h4.2⟩, hg⟩

/-- 'm[k] = true'. -/
theorem wpList_update_set (hg : o.guard = none) (m x v : Operand) (t : TypeId) (hop : o.op = Op.mapUpdate t m x v)
    (k e : TypeId) (hk : P.underlying k = some (.int .i64)) (ht : P.underlying t = some (.map k e)) (he : P.underlying e = some .bool) (b n : Nat) (S : Int → Bool)
    (hm : a.eval m = .map (some b)) (hS : IsSet P k e w b n S) (hn : n < maxLen) (y : Int) (hx : a.eval x = .int .i64 y) (hv : a.eval v = .bool true) (hy : (Lit.int .i64 y).wf = true)
    (hK : ∀ w', IsSet P k e w' b (n + 1) (fun z => z == y || S z) → w.grownBy w' (some b) → wpList P ops Q rest (a.put o.dst undef) w') : wpList P ops Q (o :: rest) a w := by
  refine wpList_plain hg fun K' hK' => ?_
  obtain ⟨w', hrun, r1, r2⟩ := set_update hk ht he hS hn y hy
  unfold Oper.wp
  simp [execOp, hop, hm, hx, hv, hrun, Result.andThen]
  exact hK' _ _ (hK w' r1 r2)

/-- The same as a step of a region that draws its order. -/
theorem step_update_set {K : Act → World → Prop} (hw : Region.wanted o (yielded ops a.tmps) = true) (hN : o.dst = none) (m x v : Operand) (t : TypeId) (hop : o.op = Op.mapUpdate t m x v)
    (k e : TypeId) (hk : P.underlying k = some (.int .i64)) (ht : P.underlying t = some (.map k e)) (he : P.underlying e = some .bool) (b n : Nat) (S : Int → Bool)
    (hm : a.eval m = .map (some b)) (hS : IsSet P k e w b n S) (hn : n < maxLen) (y : Int) (hx : a.eval x = .int .i64 y) (hv : a.eval v = .bool true) (hy : (Lit.int .i64 y).wf = true)
    (hK : ∀ w', IsSet P k e w' b (n + 1) (fun z => z == y || S z) → w.grownBy w' (some b) → K a w') : if Region.wanted o (yielded ops a.tmps) = true then Oper.wp P o a w K Q else K (a.put none undef) w := by
  obtain ⟨w', hrun, r1, r2⟩ := set_update hk ht he hS hn y hy
  refine Go.Proofs.YtjhmcepcealelaaW.PrintLast.skip_ hw hN ?_ (hK w' r1 r2)
  simp [execOp, hop, hm, hx, hv, hrun, Result.andThen]
end
end Go.Proofs.Ytjhmcepcealelaa.HSet
