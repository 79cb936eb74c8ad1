-- PRINTED by print.py (a twelfth state) out of the translation. Not trusted: Lean checks it.
import Derived.Test.YtjhmcepcealelaaA0
import Derived.Test.YtjhmcepcealelaaA7
namespace Go.Proofs.Ytjhmcepcealelaa.A
open Go.RowKit Go.Proofs.YtjhmcepcealelaaW.PrintWords Go.Proofs.YtjhmcepcealelaaW.PrintLast Go.Proofs.YtjhmcepcealelaaW.PrintMore
attribute [local go_sem] max2_int min2_int max_two min_two max_three min_three max_four min_four   -- for this text's walks alone
set_option linter.unusedVariables false
set_option linter.unusedSimpArgs false

/-! ### ledger_Accounts: function 21 -/
-- by hand: ledger.Accounts.tpl
open Go.Proofs.Ytjhmcepcealelaa.HSet
/-- A number put into an increasing list, once. -/
def ledger_Accounts.ins (n : Int) : List Int → List Int
  | [] => [n]
  | x :: xs => if n < x then n :: x :: xs else if n = x then x :: xs else x :: ledger_Accounts.ins n xs
def ledger_Accounts.accs (acc : List Int) (l : List (S28)) : List Int := l.foldl (fun a p => ledger_Accounts.ins p.f2 (ledger_Accounts.ins p.f1 a)) acc
def ledger_Accounts.in64 (n : Int) : Bool := decide (-9223372036854775808 ≤ n) && decide (n ≤ 9223372036854775807)
def ledger_Accounts.f (l0 : List (S28)) : Option (List Int) := if l0.all (fun p => ledger_Accounts.in64 p.f1 && ledger_Accounts.in64 p.f2) = true ∧ l0.length ≤ 1000000 then some (ledger_Accounts.accs [] l0) else none
theorem ledger_Accounts.mem_ins (n x : Int) : ∀ l : List Int, x ∈ ledger_Accounts.ins n l ↔ x = n ∨ x ∈ l
  | [] => by simp [ledger_Accounts.ins]
  | y :: ys => by
    unfold ledger_Accounts.ins
    have ih := ledger_Accounts.mem_ins n x ys
    split
    · simp
    · split
      · rename_i h; subst h; simp
      · simp only [List.mem_cons, ih]; constructor <;> (intro h; rcases h with h | h | h <;> simp [h])
theorem ledger_Accounts.ins_sorted (n : Int) : ∀ l : List Int, l.Pairwise (· < ·) → (ledger_Accounts.ins n l).Pairwise (· < ·)
  | [], _ => by simp [ledger_Accounts.ins]
  | y :: ys, h => by
    unfold ledger_Accounts.ins
    obtain ⟨h1, h2⟩ := List.pairwise_cons.1 h
    split
    · rename_i hlt
      refine List.pairwise_cons.2 ⟨fun z hz => ?_, h⟩
      rcases List.mem_cons.1 hz with rfl | hz
      · exact hlt
      · exact Int.lt_trans hlt (h1 z hz)
    · split
      · exact h
      · refine List.pairwise_cons.2 ⟨fun z hz => ?_, ledger_Accounts.ins_sorted n ys h2⟩
        rcases (ledger_Accounts.mem_ins n z ys).1 hz with rfl | hz
        · omega
        · exact h1 z hz
theorem ledger_Accounts.accs_sorted : ∀ (l : List (S28)) (acc : List Int), acc.Pairwise (· < ·) → (ledger_Accounts.accs acc l).Pairwise (· < ·)
  | [], _, h => h
  | p :: ps, acc, h => ledger_Accounts.accs_sorted ps _ (ledger_Accounts.ins_sorted _ _ (ledger_Accounts.ins_sorted _ _ h))
theorem ledger_Accounts.mem_accs (x : Int) : ∀ (l : List (S28)) (acc : List Int), x ∈ ledger_Accounts.accs acc l ↔ x ∈ acc ∨ ∃ p ∈ l, x = p.f1 ∨ x = p.f2
  | [], acc => by simp [ledger_Accounts.accs]
  | p :: ps, acc => by
    show x ∈ ledger_Accounts.accs _ ps ↔ _
    rw [ledger_Accounts.mem_accs x ps, ledger_Accounts.mem_ins, ledger_Accounts.mem_ins]
    simp only [List.mem_cons, exists_eq_or_imp]
    constructor
    · rintro ((h | h | h) | h) <;> simp [h]
    · rintro (h | (h | h) | h) <;> simp [h]
/-- Two increasing lists with the same members are one. -/
theorem ledger_Accounts.sorted_eq : ∀ {a b : List Int}, a.Pairwise (· < ·) → b.Pairwise (· < ·) → (∀ x, x ∈ a ↔ x ∈ b) → a = b
  | [], [], _, _, _ => rfl
  | [], y :: ys, _, _, h => absurd ((h y).2 (by simp)) (by simp)
  | x :: xs, [], _, _, h => absurd ((h x).1 (by simp)) (by simp)
  | x :: xs, y :: ys, ha, hb, h => by
    obtain ⟨a1, a2⟩ := List.pairwise_cons.1 ha
    obtain ⟨b1, b2⟩ := List.pairwise_cons.1 hb
    have e : x = y := by
      rcases List.mem_cons.1 ((h x).1 (by simp)) with e | e
      · exact e
      · rcases List.mem_cons.1 ((h y).2 (by simp)) with e2 | e2
        · exact e2.symm
        · have := a1 y e2; have := b1 x e; omega
    subst e
    rw [ledger_Accounts.sorted_eq a2 b2 (fun z => ?_)]
    have hz := h z
    simp only [List.mem_cons] at hz
    constructor
    · intro m
      rcases hz.1 (.inr m) with e | e
      · have := a1 z m; omega
      · exact e
    · intro m
      rcases hz.2 (.inr m) with e | e
      · have := b1 z m; omega
      · exact e
/-- A list without doubles, sorted, is the increasing list of its members. -/
theorem ledger_Accounts.sort_eq {xs ys : List Int} (hn : xs.Nodup) (hy : ys.Pairwise (· < ·)) (h : ∀ x, x ∈ xs ↔ x ∈ ys) : (xs.mergeSort fun x y => decide (x ≤ y)) = ys := by
  have hp := List.mergeSort_perm xs (fun x y => decide (x ≤ y))
  refine ledger_Accounts.sorted_eq ?_ hy (fun x => (hp.mem_iff).trans (h x))
  have hs := List.pairwise_mergeSort (le := fun x y : Int => decide (x ≤ y)) (fun a b c h1 h2 => by simp at *; omega) (fun a b => by simp; omega) xs
  have hd : (xs.mergeSort fun x y => decide (x ≤ y)).Nodup := hp.nodup_iff.2 hn
  refine (hs.and hd).imp ?_
  intro a b ⟨h1, h2⟩
  have h1' : a ≤ b := by simpa using h1
  omega
theorem ledger_Accounts.wf {n : Int} (h : ledger_Accounts.in64 n = true) : (Lit.int .i64 n).wf = true := by
  unfold ledger_Accounts.in64 at h
  simp only [Bool.and_eq_true, decide_eq_true_eq] at h
  simp [Lit.wf, IntKind.min, IntKind.max, IntKind.signed, IntKind.bits]
  omega
theorem ledger_Accounts.zeroB (w : World) : (zeroValue 4).run Try.prog w = .ok (.bool false) w := by kernel_rfl
theorem ledger_Accounts.accs_snoc (l : List (S28)) (k : Nat) (h : k < l.length) : ledger_Accounts.accs [] (l.take (k + 1)) = ledger_Accounts.ins (rd_T28 l (k : Int)).f2 (ledger_Accounts.ins (rd_T28 l (k : Int)).f1 (ledger_Accounts.accs [] (l.take k))) := by
  rw [List.take_succ_eq_append_getElem h]
  unfold ledger_Accounts.accs
  rw [List.foldl_append]
  simp [rd_T28, h]
theorem ledger_Accounts.cont_ins (a b : Int) (l : List Int) (x : Int) : (ledger_Accounts.ins b (ledger_Accounts.ins a l)).contains x = (x == b || (x == a || l.contains x)) := by
  rw [Bool.eq_iff_iff]
  simp [ledger_Accounts.mem_ins]
theorem ledger_Accounts.nodup_snoc {xs : List Int} {x : Int} (h : xs.Nodup) (hx : x ∉ xs) : (xs ++ [x]).Nodup := by
  refine List.nodup_append.2 ⟨h, by simp, ?_⟩
  intro a ha b hb e
  rw [List.mem_singleton] at hb
  exact hx (hb ▸ e ▸ ha)
theorem ledger_Accounts.mem_snoc {xs : List Int} {x : Int} {has left : Lit → Bool} (h : ∀ y, y ∈ xs ↔ (has (.int .i64 y) = true ∧ left (.int .i64 y) = false)) (hx : has (.int .i64 x) = true) (y : Int) :
    y ∈ xs ++ [x] ↔ (has (.int .i64 y) = true ∧ (left (.int .i64 y) && !(Lit.int .i64 y).sameKey (.int .i64 x)) = false) := by
  rw [List.mem_append, List.mem_singleton, h y]
  by_cases e : y = x
  · subst e
    have h1 : (Lit.int .i64 y).sameKey (.int .i64 y) = true := WideAt.sameKey_self (show WideAt.IsKeyLit (.int .i64 y) from trivial)
    simp [h1, hx]
  · have h1 : (Lit.int .i64 y).sameKey (.int .i64 x) = false := by
      cases hs : (Lit.int .i64 y).sameKey (.int .i64 x)
      · rfl
      · have h2 := WideAt.sameKey_eq hs
        injection h2 with _ h2
        exact absurd h2 e
    simp [h1, e]
set_option maxHeartbeats 4000000 in
set_option maxRecDepth 100000 in
theorem ledger_Accounts.calls (A0 : Option Addr) (c0 : Nat) (l0 : List (S28)) (r : List Int) (w : World) (hr0 : Kd.C k28 w A0 l0.length l0) (hc0 : l0.length ≤ c0) (h : ledger_Accounts.f l0 = some r) :
    Calls Try.prog 21 #[.slice A0 l0.length c0] w fun e w' => ∃ v0_ : Value, e = .returned (v0_) ∧ Kd.R (Kd.int .i64) 3 w' w.heap.size (fun _ => True) v0_ r ∧ Below w.heap.size w w' := by
  unfold ledger_Accounts.f at h
  split at h
  · rename_i hg
    obtain ⟨hall, hlen⟩ := hg
    have HE := Aside0.mk (Option.some.inj h)
    clear h
    have hu28 := Try.underlying28
    have hmm := @run_makeMap Try.prog
    have HR0 := Aside0.mk hr0
    have HA := Aside0.mk hall
    have HL := Aside0.mk hlen
    clear hr0 hc0 hall hlen
    have hm := HR0.out.2.1
    go_enter Try.func21, Try.ntmps21
    go_wp2
    go_loopw [11] (fun v wr => ∃ (k : Nat), k ≤ l0.length ∧ v = .int .i64 k ∧ Aside0 (IsSet Try.prog 3 4 wr w.heap.size (2 * k) (fun x => (ledger_Accounts.accs [] (l0.take k)).contains x)) ∧ Aside0 (Below w.heap.size w wr)) (fun v _ => l0.length - (intOf v).toNat)
    case atStart => exact ⟨0, Nat.zero_le _, rfl, ⟨(IsSet.made _ _ _ w).same (fun _ => by simp [ledger_Accounts.accs])⟩, ⟨(Below.refl _ _).alloc (Nat.le_refl _) _⟩⟩
    case round =>
      obtain ⟨k, hk, rfl, HS, HB⟩ := hrel
      by_cases hlt : k < l0.length
      · obtain ⟨ad, e, hx0, hx1, hx2, hx3⟩ := at_T28 HR0.out (k : Int) (by omega) (by omega)
        cases e
        simp only [Int.toNat_natCast] at hx0 hx1 hx2 hx3
        replace hx0 := (HB.out.cell (World.block_lt_of_cell? w _ hx0)).trans hx0
        replace hx1 := (HB.out.cell (World.block_lt_of_cell? w _ hx1)).trans hx1
        replace hx2 := (HB.out.cell (World.block_lt_of_cell? w _ hx2)).trans hx2
        replace hx3 := (HB.out.cell (World.block_lt_of_cell? w _ hx3)).trans hx3
        have hin : ledger_Accounts.in64 (rd_T28 l0 (k : Int)).f1 = true ∧ ledger_Accounts.in64 (rd_T28 l0 (k : Int)).f2 = true := by
          have h1 := List.all_eq_true.1 HA.out _ (List.getElem_mem hlt)
          rw [Bool.and_eq_true] at h1
          simpa [rd_T28, hlt] using h1
        have hsn := ledger_Accounts.accs_snoc l0 k hlt
        obtain ⟨f0, hf0⟩ : ∃ z, z = (rd_T28 l0 (k : Int)).f0 := ⟨_, rfl⟩
        obtain ⟨f1, hf1⟩ : ∃ z, z = (rd_T28 l0 (k : Int)).f1 := ⟨_, rfl⟩
        obtain ⟨f2, hf2⟩ : ∃ z, z = (rd_T28 l0 (k : Int)).f2 := ⟨_, rfl⟩
        obtain ⟨f3, hf3⟩ : ∃ z, z = (rd_T28 l0 (k : Int)).f3 := ⟨_, rfl⟩
        rw [← hf1, ← hf2] at hin hsn
        rw [← hf0] at hx0
        rw [← hf1] at hx1
        rw [← hf2] at hx2
        rw [← hf3] at hx3
        clear hf0 hf1 hf2 hf3
        have HSN := Aside0.mk hsn
        have HW1 := Aside0.mk (ledger_Accounts.wf hin.1)
        have HW2 := Aside0.mk (ledger_Accounts.wf hin.2)
        clear hsn hin
        go_wp2_with (first | ((with_reducible refine gate_dst (N := 5) rfl ?_); refine box_event ?hg (N := 5) ?hd (cs := #[.int .i64 0, .int .i64 0, .int .i64 0, .int .i64 0]) (t := 28) ?hr ?_; (case hd => rfl); (case hg => rfl); (case hr => first | (go_simp; done) | (go_simp; rfl)); intro gb hgb w8 hbox hb; have HS1 := Aside0.mk (IsSet.below HS.out hb); have HB1 := Aside0.mk (below_then HB.out HB.out.size hb); have BK := Aside0.mk hbox; have HN := Aside0.mk (show w.heap.size ≠ gb from fun e_ => by have := HS.out.lt; omega); have hcz0 : w8.cell? ⟨gb, 0, none⟩ = some (.int .i64 0) := (blk_cell BK.out 0).trans rfl; have hcz1 : w8.cell? ⟨gb, 1, none⟩ = some (.int .i64 0) := (blk_cell BK.out 1).trans rfl; have hcz2 : w8.cell? ⟨gb, 2, none⟩ = some (.int .i64 0) := (blk_cell BK.out 2).trans rfl; have hcz3 : w8.cell? ⟨gb, 3, none⟩ = some (.int .i64 0) := (blk_cell BK.out 3).trans rfl; have hfz0 := blk_frozen BK.out 0; have hfz1 := blk_frozen BK.out 1; have hfz2 := blk_frozen BK.out 2; have hfz3 := blk_frozen BK.out 3; have GE := Aside0.mk (show w.heap.size ≤ gb by have := HB.out.size; omega); clear hb hbox hgb))
        have HS2 := Aside0.mk (IsSet.far (p := ⟨gb, 3, none⟩) (IsSet.far (p := ⟨gb, 2, none⟩) (IsSet.far (p := ⟨gb, 1, none⟩) (IsSet.far (p := ⟨gb, 0, none⟩) HS1.out HN.out (.int .i64 f0)) HN.out (.int .i64 f1)) HN.out (.int .i64 f2)) HN.out (.int .i64 f3))
        have HB2 := Aside0.mk (below_set (g := gb) (j := 3) (v := .int .i64 f3) (below_set (g := gb) (j := 2) (v := .int .i64 f2) (below_set (g := gb) (j := 1) (v := .int .i64 f1) (below_set (g := gb) (j := 0) (v := .int .i64 f0) HB1.out GE.out) GE.out) GE.out) GE.out)
        have hc1 : ((((w8.setCell ⟨gb, 0, none⟩ (.int .i64 f0)).setCell ⟨gb, 1, none⟩ (.int .i64 f1)).setCell ⟨gb, 2, none⟩ (.int .i64 f2)).setCell ⟨gb, 3, none⟩ (.int .i64 f3)).cell? ⟨gb, 1, none⟩ = some (.int .i64 f1) := by go_simp
        have hc2 : ((((w8.setCell ⟨gb, 0, none⟩ (.int .i64 f0)).setCell ⟨gb, 1, none⟩ (.int .i64 f1)).setCell ⟨gb, 2, none⟩ (.int .i64 f2)).setCell ⟨gb, 3, none⟩ (.int .i64 f3)).cell? ⟨gb, 2, none⟩ = some (.int .i64 f2) := by go_simp
        generalize hwz : ((((w8.setCell ⟨gb, 0, none⟩ (.int .i64 f0)).setCell ⟨gb, 1, none⟩ (.int .i64 f1)).setCell ⟨gb, 2, none⟩ (.int .i64 f2)).setCell ⟨gb, 3, none⟩ (.int .i64 f3)) = wz at *
        clear hwz hcz0 hcz1 hcz2 hcz3 hfz0 hfz1 hfz2 hfz3 hx0 hx1 hx2 hx3 HS1 HB1 BK
        have hroom : 2 * k < maxLen := by have := HL.out; unfold maxLen; omega
        have hroom1 : 2 * k + 1 < maxLen := by have := HL.out; unfold maxLen; omega
        obtain ⟨wa, ra, sa, ga⟩ := set_update (w := wz.drew) Try.underlying3 Try.underlying44 Try.underlying4 (HS2.out) hroom f1 HW1.out
        obtain ⟨wab, rab, sab, gab⟩ := set_update (w := wa) Try.underlying3 Try.underlying44 Try.underlying4 sa hroom1 f2 HW2.out
        obtain ⟨wb, rb, sb, gb2⟩ := set_update (w := wz.drew) Try.underlying3 Try.underlying44 Try.underlying4 (HS2.out) hroom f2 HW2.out
        obtain ⟨wba, rba, sba, gba⟩ := set_update (w := wb) Try.underlying3 Try.underlying44 Try.underlying4 sb hroom1 f1 HW1.out
        have HBa := Aside0.mk (((below_drew HB2.out).grown ga (below_drew HB2.out).size (fun j hj => by cases hj; exact Nat.le_refl _)))
        have HBb := Aside0.mk (((below_drew HB2.out).grown gb2 (below_drew HB2.out).size (fun j hj => by cases hj; exact Nat.le_refl _)))
        have HBab := Aside0.mk (HBa.out.grown gab HBa.out.size (fun j hj => by cases hj; exact Nat.le_refl _))
        have HBba := Aside0.mk (HBb.out.grown gba HBb.out.size (fun j hj => by cases hj; exact Nat.le_refl _))
        have hca : wa.cell? ⟨gb, 2, none⟩ = some (.int .i64 f2) := ga.cell (show wz.drew.cell? ⟨gb, 2, none⟩ = some (.int .i64 f2) from hc2) (fun e_ => HN.out (by injection e_ with e_; exact e_.symm))
        have hcb : wb.cell? ⟨gb, 1, none⟩ = some (.int .i64 f1) := gb2.cell (show wz.drew.cell? ⟨gb, 1, none⟩ = some (.int .i64 f1) from hc1) (fun e_ => HN.out (by injection e_ with e_; exact e_.symm))
        have HSab := Aside0.mk sab
        have HSba := Aside0.mk sba
        clear sa sb sab sba ga gb2 gab gba
        go_region
        all_goals
          go_wp2
          go_roundw
          case rel => exact ⟨k + 1, by omega, by go_num, ⟨by
            first
            | exact (HSab.out.same (fun x => by rw [HSN.out, ledger_Accounts.cont_ins])).mono (by omega)
            | exact (HSba.out.same (fun x => by rw [HSN.out, ledger_Accounts.cont_ins]; cases (x == f1) <;> cases (x == f2) <;> rfl)).mono (by omega)⟩, by first | exact HBab | exact HBba⟩
          case measure => simp [intOf]; omega
      · obtain rfl : k = l0.length := by omega
        rw [List.take_length] at HS
        obtain ⟨D, hown, _, hhas⟩ := HS.out
        have HH := Aside0.mk hhas
        have HOWN := Aside0.mk hown
        clear hhas hown HS
        obtain ⟨wo, hwo⟩ : ∃ wo, wo = wr := ⟨_, rfl⟩
        subst hwo
        go_wp2_with (first | (at_range; refine wpList_range_own _ rfl _ 44 rfl 3 4 (Maps.int_keyed Try.underlying3) Try.underlying44 _ w.heap.size _ _ rfl HOWN.out ?_; intro w2 hrg2 hg2 hs2))
        have HRG := Aside0.mk hrg2
        have HB2 := Aside0.mk (HB.out.grown hg2 HB.out.size (fun j hj => by cases hj))
        have HSZ := Aside0.mk hs2
        obtain ⟨rI, hrI⟩ : ∃ q, q = wo.heap.size := ⟨_, rfl⟩
        rw [← hrI] at HRG HSZ ⊢
        have HGE := Aside0.mk (show w.heap.size < rI by have := HOWN.out.lt; omega)
        have HN := Aside0.mk (show Maps.size D ≤ 2 * l0.length by
          obtain ⟨es, clock, _, _, hs, rfl⟩ := HOWN.out
          simpa [Maps.size, length_sorted] using hs)
        clear hrg2 hg2 hs2 hrI
        try go_frame
        go_loopw [6] (fun v wr => ∃ (left : Lit → Bool) (cnt : Nat) (xs : List Int), Aside0 (wr.ranges Try.prog 3 (plainElem Try.prog 4) w.heap.size rI (2 * l0.length) D left cnt) ∧ Aside0 (xs.length + cnt ≤ Maps.size D) ∧ Aside0 (xs.Nodup ∧ ∀ x, x ∈ xs ↔ (Maps.has D (.int .i64 x) = true ∧ left (.int .i64 x) = false)) ∧ Aside0 (∀ x, left (.int .i64 x) = true → Maps.has D (.int .i64 x) = true) ∧ Aside0 (Kd.R (Kd.int .i64) 3 wr w.heap.size (fun k_ => rI < k_) v xs) ∧ Aside0 (rI < wr.heap.size) ∧ Aside0 (Below w.heap.size w wr)) (fun _ wr => wr.rangeLeft w.heap.size rI)
        case atStart => exact ⟨_, _, [], HRG, ⟨by simp⟩, ⟨by simp, fun x => by simp⟩, ⟨fun x hx => hx⟩, ⟨Kd.R_nil _ _ _ _ _⟩, ⟨by rw [HSZ.out]; omega⟩, HB2⟩
        case round =>
          obtain ⟨left, cnt, xs, HRG, HC, HX, HLH, HO, HI, HB⟩ := hrel
          go_wp2_with (first | (at_next; refine wpList_next_ranges _ rfl _ rfl 3 (Maps.int_keyed Try.underlying3) (plainElem Try.prog 4) (Value.int .i64) (fun v : Value => v) (fun key kl hkey => by obtain ⟨x, rfl, _⟩ := Maps.keyOf_int_inv Try.underlying3 hkey; exact ⟨x, rfl⟩) (fun v y _ => ⟨v, rfl⟩) w.heap.size rI (2 * l0.length) D left cnt rfl HRG.out ?_ ?_))
          · intro hc0 hl0
            have hmem : ∀ x, x ∈ xs ↔ x ∈ ledger_Accounts.accs [] l0 := fun x => by
              rw [HX.out.2 x, HH.out x]
              simp [hl0]
            have HQ := Aside0.mk (ledger_Accounts.sort_eq HX.out.1 (ledger_Accounts.accs_sorted l0 [] List.Pairwise.nil) hmem)
            clear hc0 hl0 hmem
            have HS := Aside0.mk (show slices_Sort_int_int.f xs = some r by
              unfold slices_Sort_int_int.f
              rw [if_pos (by have := HC.out; have := HN.out; have := HL.out; omega), HQ.out, HE.out])
            go_wp2_with (first | (go_at_call 29; refine (slices_Sort_int_int.calls (fun k_ => rI < k_) _ xs r w _ HB.out HO.out HS.out).mono ?_; rintro e w9 ⟨rfl, hr9, hb9, hk9⟩))
            go_ret
            exact ⟨_, rfl, Kd.R_mono hr9 (fun _ _ => trivial), hb9⟩
          · intro x c kl yd yp w1 cnt1 hkey hlk hv hat hrg1 hlt1 hg1 hs1 hen
            obtain ⟨x', ex, rfl, hwx⟩ := Maps.keyOf_int_inv Try.underlying3 hkey
            cases ex
            have HRG1 := Aside0.mk hrg1
            have HLT := Aside0.mk hlt1
            have HO1 := Aside0.mk (Kd.R_grown HO.out hg1 (fun k_ hk e_ => by injection e_ with e_; have := hk; omega))
            have HB1 := Aside0.mk (HB.out.grown hg1 HB.out.size (fun j hj => by cases hj; exact Nat.le_of_lt HGE.out))
            have HLK := Aside0.mk hlk
            have HS1 := Aside0.mk hs1
            clear hkey hlk hv hat hrg1 hlt1 hg1 hs1 hwx
            go_wp2_with (first | ((with_reducible refine gate_builtin (b := .append) (xs := #[.tmp 28, .tmp 30]) rfl ?_); at_builtin; refine Kd.R_append (Kd.int .i64) (w0 := w) w.heap.size rfl (.tmp 28) (.tmp 30) 38 3 (.int .i64 0) 8 rfl Try.underlying38 info3 rfl (by decide) (by omega) _ xs x [.int .i64 x] (fun k_ => rI < k_) (fun _ => False) rfl rfl ?aP (fun _ hk => hk.elim) ?aF ?aO ?aB ?aS ?aL ?_; (case aP => exact rfl); (case aB => exact HB1.out); (case aF => exact (fun k_ hk => Nat.lt_of_lt_of_le (by rw [HS1.out]; exact HI.out) hk)); (case aO => exact HO1.out); (case aS => exact HB1.out.size); (case aL => have := HC.out; have := HN.out; have := HL.out; have := HLT.out; omega); intro v14 w14 ho hb hg hat; have HO2 := Aside0.mk ho; have HB2 := Aside0.mk hb; have HG2 := Aside0.mk (show w1.grownBy w14 (Value.ownBlock u6) from hg); clear ho hb hg hat))
            have HRG2 := Aside0.mk (HRG1.out.kept HG2.out (fun e_ => by have := HO1.out.1 _ e_.symm; have := HGE.out; omega) (fun e_ => by have := HO1.out.1 _ e_.symm; omega))
            go_roundw
            case rel => exact ⟨_, cnt1, xs ++ [x], HRG2, ⟨by have := HC.out; have := HLT.out; simp; omega⟩, ⟨ledger_Accounts.nodup_snoc HX.out.1 (fun hx => by have := ((HX.out.2 x).1 hx).2; rw [HLK.out] at this; cases this), ledger_Accounts.mem_snoc HX.out.2 (HLH.out x HLK.out)⟩, ⟨fun z hz => HLH.out z (by rw [Bool.and_eq_true] at hz; exact hz.1)⟩, HO2, ⟨Nat.lt_of_lt_of_le HI.out (by have := HG2.out.size; have := HS1.out; omega)⟩, HB2⟩
            case measure => rw [HRG2.out.left_eq, HRG.out.left_eq]; exact HLT.out
  · cases h

end Go.Proofs.Ytjhmcepcealelaa.A
