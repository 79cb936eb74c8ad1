/- What an argument that can be read as data stands for, in the words of the printed contracts: kinds put together. -/
import Derived.Test.YtjlfaoaoinhebaaWWords
import Derived.Deep.Slices
import Derived.SizedLaws
import Derived.ChangeArms
namespace Go.Proofs.Ytjlfaoaoinhebaa.HRow
open Go.RowKit Go.Deep Go.WideShapes Go.ChangeShapes Go.Proofs.YtjlfaoaoinhebaaW.PrintWords
set_option linter.unusedVariables false

def Opens {α : Type} (P : Program) (d : Kd α) (t : TypeId) (ok : α → Prop) : Prop :=
  ∀ (H : Type) (enc : TypeId × Value → H) (W : World) (fuel : Nat) (cs : List Value) (x : DataW H × List MemPlace),
    DataW.trod enc P W 0 (fun _ => true) true fuel t cs = some x → (∀ n ∈ x.1.weights P t, n ≤ reachBytes) → ∃ v : α, d.K W v cs ∧ ok v

section
variable {P : Program} {t : TypeId}

theorem opens_int {k : IntKind} (hu : P.underlying t = some (.int k)) : Opens P (Kd.int k) t (fun v => (Lit.int k v).wf = true) := by
  intro H enc W fuel cs x h _
  obtain ⟨n, rfl, _, hw⟩ := DataW.trod_int hu h
  exact ⟨n, rfl, hw⟩

theorem opens_bool (hu : P.underlying t = some .bool) : Opens P Kd.bool t (fun _ => True) := by
  intro H enc W fuel cs x h _
  obtain ⟨b, rfl, _⟩ := DataW.trod_bool hu h
  exact ⟨b, rfl, trivial⟩

theorem weightsAll_mem {H : Type} {P : Program} {e : TypeId} : ∀ {l : List (DataW H)} {y : DataW H}, y ∈ l → ∀ n ∈ y.weights P e, n ∈ DataW.weightsAll P e l
  | z :: r, y, hy, n, hn => by
    simp only [DataW.weightsAll, List.mem_append]
    rcases List.mem_cons.1 hy with rfl | hy
    · exact .inl hn
    · exact .inr (weightsAll_mem hy n hn)

theorem opens_slice {α : Type} {d : Kd α} {e : TypeId} {ok : α → Prop} {B : Nat} (hu : P.underlying t = some (.slice e)) (hE : Opens P d e ok) (hc : P.cellsOf e = d.sz) (hB : P.bytesOf e = B) :
    Opens P (Kd.slice e d) t (fun l => (∀ x ∈ l, ok x) ∧ l.length * B ≤ 140737488351232 ∧ l.length ≤ 9223372036854775807) := by
  intro H enc W fuel cs x h hw
  rcases open_slice hu h with ⟨rfl, rfl⟩ | ⟨a, len, cap, m, n, D, Pl, rfl, _, hl, hm, hmm, rfl, hi⟩
  · exact ⟨[], ⟨none, 0, rfl, Nat.le_refl _, ⟨rfl, by simp, fun h => absurd h (Nat.lt_irrefl 0)⟩⟩, by simp⟩
  · have hmc : m = cap := by simpa using hmm
    have hwl := hw ((((List.range len).map D).length + ((List.range (m - len)).map fun j => D (len + j)).length) * P.bytesOf e) (by simp [DataW.weights, hu])
    have key : ∀ i, i < len → ∃ v : α, ok v ∧ ∃ c, c.length = d.sz ∧ d.K W v c ∧ ∀ j u, c[j]? = some u → W.cell? (a.add (i * d.sz + j)) = some u := by
      intro i hil
      obtain ⟨c, hc1, hc2⟩ := hi i (by omega)
      obtain ⟨v, hv, hok⟩ := hE H enc W n c _ hc2 (fun q hq => hw q (by
        simp only [DataW.weights, hu, List.mem_cons, List.mem_append]
        exact .inr (.inl (weightsAll_mem (List.mem_map.2 ⟨i, List.mem_range.2 hil, rfl⟩) q hq))))
      obtain ⟨_, hcl, hat⟩ := World.cells?_some hc1
      rw [hc] at hcl hat hc1
      refine ⟨v, hok, c, hcl, hv, fun j u hj => ?_⟩
      have hjl : j < d.sz := by rw [← hcl]; exact (List.getElem?_eq_some_iff.1 hj).1
      have h1 := hat j hjl
      rw [Go.Deep.add_add] at h1
      exact h1.trans hj
    have lists : ∀ k, k ≤ len → ∃ l : List α, l.length = k ∧ (∀ x ∈ l, ok x) ∧ ∀ j p, l[j]? = some p → ∃ c, c.length = d.sz ∧ d.K W p c ∧ ∀ i u, c[i]? = some u → W.cell? (a.add (j * d.sz + i)) = some u := by
      intro k
      induction k with
      | zero => exact fun _ => ⟨[], rfl, by simp, fun j p hp => by simp at hp⟩
      | succ k ih =>
        intro hk
        obtain ⟨l, hl1, hl2, hl3⟩ := ih (by omega)
        obtain ⟨v, hv1, hv2⟩ := key k (by omega)
        refine ⟨l ++ [v], by simp [hl1], fun x hx => ?_, fun j p hp => ?_⟩
        · rcases List.mem_append.1 hx with hx | hx
          · exact hl2 x hx
          · rw [List.mem_singleton.1 hx]; exact hv1
        · rcases Nat.lt_or_ge j l.length with hj | hj
          · rw [List.getElem?_append_left hj] at hp
            exact hl3 j p hp
          · rw [List.getElem?_append_right hj] at hp
            have hj0 : j - l.length = 0 := by
              have := (List.getElem?_eq_some_iff.1 hp).1
              simpa using this
            rw [hj0] at hp
            have hpv : v = p := by simpa using hp
            subst hpv
            obtain rfl : j = k := by omega
            exact hv2
    obtain ⟨l, hl1, hl2, hl3⟩ := lists len (Nat.le_refl _)
    subst hl1
    refine ⟨l, ⟨some a, cap, rfl, hl, ⟨rfl, ?_, fun _ => ⟨a, rfl, hl3⟩⟩⟩, hl2, ?_, ?_⟩
    · unfold maxLen at hm; omega
    · simp only [List.length_map, List.length_range, reachBytes] at hwl
      rw [hB] at hwl
      have : l.length * B ≤ (l.length + (m - l.length)) * B := Nat.mul_le_mul_right _ (Nat.le_add_right _ _)
      omega
    · unfold maxLen at hm; omega

/-- A struct's fields from an offset on. -/
def OpensF {α : Type} (P : Program) (d : Kd α) (fs : List Field) (off : Nat) (ok : α → Prop) : Prop :=
  ∀ (H : Type) (enc : TypeId × Value → H) (W : World) (fuel : Nat) (cs : List Value) (xs : List (DataW H × List MemPlace)), cs.length = off + d.sz → xs.length = fs.length →
    (∀ (i : Nat) (f : Field), fs[i]? = some f → DataW.trod enc P W 0 (fun _ => true) true fuel f.type ((cs.drop f.offset).take (P.cellsOf f.type)) = xs[i]?) →
    (∀ (i : Nat) (f : Field) (x : DataW H × List MemPlace), fs[i]? = some f → xs[i]? = some x → ∀ n ∈ x.1.weights P f.type, n ≤ reachBytes) → ∃ v : α, d.K W v (cs.drop off) ∧ ok v

theorem opensF_last {α : Type} {d : Kd α} {f : Field} {off : Nat} {ok : α → Prop} (hE : Opens P d f.type ok) (ho : f.offset = off) (hc : P.cellsOf f.type = d.sz) : OpensF P d [f] off ok := by
  intro H enc W fuel cs xs hl hx ht hw
  match xs, hx with
  | [x], _ =>
    have h1 := ht 0 f rfl
    rw [ho, hc, List.take_of_length_le (by rw [List.length_drop]; omega)] at h1
    exact hE H enc W fuel _ x h1 (hw 0 f x rfl rfl)

theorem opensF_cons {α β : Type} {a : Kd α} {b : Kd β} {f : Field} {fs : List Field} {off : Nat} {ok : α → Prop} {ok' : β → Prop} (hE : Opens P a f.type ok) (ho : f.offset = off) (hc : P.cellsOf f.type = a.sz) (hF : OpensF P b fs (off + a.sz) ok') :
    OpensF P (Kd.pair a b) (f :: fs) off (fun x => ok x.1 ∧ ok' x.2) := by
  intro H enc W fuel cs xs hl hx ht hw
  match xs, hx with
  | x :: xs, hx =>
    have hl' : cs.length = off + (a.sz + b.sz) := hl
    have h1 := ht 0 f rfl
    rw [ho, hc] at h1
    obtain ⟨v, hv, hok⟩ := hE H enc W fuel _ x h1 (hw 0 f x rfl rfl)
    obtain ⟨v', hv', hok'⟩ := hF H enc W fuel cs xs (by omega) (by simpa using hx) (fun i g hg => ht (i + 1) g hg) (fun i g y hg hy => hw (i + 1) g y hg hy)
    refine ⟨(v, v'), ⟨(cs.drop off).take a.sz, cs.drop (off + a.sz), ?_, hv, hv'⟩, hok, hok'⟩
    rw [← List.drop_drop, List.take_append_drop]

theorem opens_struct {α β : Type} {d : Kd α} {fs : Array Field} {ok : α → Prop} (hu : P.underlying t = some (.struct fs)) (hF : OpensF P d fs.toList 0 ok) (hc : P.cellsOf t = d.sz) (f : β → α) (g : α → β) (hfg : ∀ y, f (g y) = y) :
    Opens P (Kd.iso d f) t (fun x => ok (f x)) := by
  intro H enc W fuel cs x h hw
  obtain ⟨xs, n, rfl, rfl, hl, hxl, hf⟩ := DataW.trod_struct hu h
  obtain ⟨v, hv, hok⟩ := hF H enc W n cs xs (by omega) (by simpa using hxl) (fun i fd hi => hf i fd (by simpa using hi)) (fun i fd y hi hy q hq => hw q (by
    simp only [DataW.weights, hu]
    exact DataW.weights_mem_each (j := i) (t := fd.type) (d := y.1) (by rw [List.getElem?_map, hi]; rfl) (by rw [List.getElem?_map, hy]; rfl) q hq))
  refine ⟨g v, ?_, ?_⟩
  · show d.K W (f (g v)) cs
    rw [hfg]
    simpa using hv
  · show ok (f (g v))
    rw [hfg]
    exact hok
end

/-- From what is told of all the arguments' weights to one argument's. -/
theorem weights_of {H : Type} {P : Program} {ts : List TypeId} {ds : List (DataW H)} (h : (DataW.weightsEach P ts ds).all (· ≤ reachBytes) = true) {j : Nat} {t : TypeId} {d : DataW H} (ht : ts[j]? = some t) (hd : ds[j]? = some d) :
    ∀ n ∈ d.weights P t, n ≤ reachBytes := fun n hn => by
  have := List.all_eq_true.1 h n (DataW.weights_mem_each ht hd n hn)
  simpa using this
end Go.Proofs.Ytjlfaoaoinhebaa.HRow
