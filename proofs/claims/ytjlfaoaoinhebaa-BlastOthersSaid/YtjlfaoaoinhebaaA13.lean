-- PRINTED by print.py (a twelfth state) out of the translation. Not trusted: Lean checks it.
import Derived.Test.YtjlfaoaoinhebaaA0
import Derived.Test.YtjlfaoaoinhebaaA7
import Derived.Test.YtjlfaoaoinhebaaA12
namespace Go.Proofs.Ytjlfaoaoinhebaa.A
open Go.RowKit Go.Proofs.YtjlfaoaoinhebaaW.PrintWords Go.Proofs.YtjlfaoaoinhebaaW.PrintLast Go.Proofs.YtjlfaoaoinhebaaW.PrintMore
attribute [local go_sem] max2_int min2_int max_two min_two max_three min_three max_four min_four   -- for this text's walks alone
set_option linter.unusedVariables false
set_option linter.unusedSimpArgs false

-- by hand: blast.Fire.tpl
theorem blast_Fire.tot (x : S30) (by_ t : Int) (em : Bool) : ∃ v, blast_fires.f x.f0 x.f1 x.f2 x.f3 x.f4 x.f5.f0 x.f5.f1 by_ t em = some v := by
  simp only [blast_fires.f]
  repeat' split
  all_goals first | exact ⟨_, rfl⟩ | (simp only [Option.bind_some]; split <;> exact ⟨_, rfl⟩) | (refine ⟨_, ?_⟩; simp; done)
def blast_Fire.cv (by_ t : Int) (em : Bool) (x : S30) : Int := (blast_fires.f x.f0 x.f1 x.f2 x.f3 x.f4 x.f5.f0 x.f5.f1 by_ t em).getD 0
theorem blast_Fire.cv_eq (x : S30) (by_ t : Int) (em : Bool) : blast_fires.f x.f0 x.f1 x.f2 x.f3 x.f4 x.f5.f0 x.f5.f1 by_ t em = some (blast_Fire.cv by_ t em x) := by
  obtain ⟨v, hv⟩ := blast_Fire.tot x by_ t em
  unfold blast_Fire.cv
  rw [hv]
  rfl
theorem blast_Fire.check (by_ t : Int) (em : Bool) (x : S30) (W : World) : Calls Try.prog 52 #[.agg #[.int .i64 x.f0, .int .i64 x.f1, .int .i64 x.f2, .int .i64 x.f3, .int .i64 x.f4, .int .i64 x.f5.f0, .int .i64 x.f5.f1], .agg #[.int .i64 by_, .int .i64 t, .bool em]] W fun e w' => e = .returned (.int .i64 (blast_Fire.cv by_ t em x)) ∧ Below W.heap.size W w' := by
  refine (blast_fires.calls x.f0 x.f1 x.f2 x.f3 x.f4 x.f5.f0 x.f5.f1 by_ t em _ W (blast_Fire.cv_eq x by_ t em)).mono ?_
  rintro e w' ⟨rfl, hb⟩
  exact ⟨rfl, hb⟩
def blast_Fire.f (l0 : List (S30)) (a1 : Int) (a2 : Int) (a3 : Bool) (a4 : Bool) (a5 : Int) : Option (List (S30) × Int) := if l0.length < 1000000000 then some (blast_Clear.chg (if a3 = true then 3 else 4) a5 (blast_Fire.cv a2 a5 a4) l0 (blast_Clear.idx (blast_Clear.pr a1) 0 l0)) else none
set_option maxHeartbeats 4000000 in
set_option maxRecDepth 100000 in
theorem blast_Fire.calls (A0 : Option Addr) (c0 : Nat) (l0 : List (S30)) (a1 : Int) (a2 : Int) (a3 : Bool) (a4 : Bool) (a5 : Int) (r1 : List (S30)) (r2 : Int) (w : World) (hr0 : Kd.C k30 w A0 l0.length l0) (hc0 : l0.length ≤ c0) (h : blast_Fire.f l0 a1 a2 a3 a4 a5 = some (r1, r2)) :
    Calls Try.prog 24 #[.slice A0 l0.length c0, .int .i64 a1, .int .i64 a2, .bool a3, .bool a4, .int .i64 a5] w fun e w' => ∃ v0_ : Value, e = .returned (.tuple #[v0_, .int .i64 r2]) ∧ Kd.R k30 30 w' w.heap.size (fun _ => True) v0_ r1 ∧ Below w.heap.size w w' := by
  unfold blast_Fire.f at h
  split at h
  · rename_i hlen
    have h' := Option.some.inj h
    clear h
    have hu2 := Try.underlying65
    have hu3 := Try.underlying67
    have hsf : ∀ (p : Addr) (u : World), (store p (.func (.func 52) #[] #[])).run Try.prog u = stored Try.prog u p (.func (.func 52) #[] #[]) .plain := fun p u => run_store Try.prog u p _ _ rfl
    have HR0 := Aside0.mk hr0
    have HC0 := Aside0.mk hc0
    clear hr0 hc0
    cases a3
    all_goals
      simp only [if_true, Bool.false_eq_true, if_false] at h'
      have HH := Aside0.mk h'
      clear h'
      go_enter Try.func24, Try.ntmps24
      go_wp2_with (first | ((with_reducible refine gate_dst (N := 14) rfl ?_); refine box_event ?hg (N := 14) ?hd (cs := #[.int .i64 0, .nilFunc]) (t := 65) ?hr ?_; (case hd => rfl); (case hg => rfl); (case hr => first | (go_simp; done) | (go_simp; rfl)); intro gm hgb w8 hbox hb; have HB1 := Aside0.mk hb; have BM := Aside0.mk hbox; have GM := Aside0.mk (show w.heap.size ≤ gm by rw [hgb]; exact Nat.le_refl _); have hcm0 : w8.cell? ⟨gm, 0, none⟩ = some (.int .i64 0) := (blk_cell BM.out 0).trans rfl; have hfm0 := blk_frozen BM.out 0; have hcm1 : w8.cell? ⟨gm, 1, none⟩ = some .nilFunc := (blk_cell BM.out 1).trans rfl; have hfm1 := blk_frozen BM.out 1; clear hb hbox hgb) | (go_at_call 45; refine (blast_Clear.change _ 52 a2 a5 a4 (blast_Fire.cv a2 a5 a4) (by intro ar W; go_simp) (blast_Fire.check a2 a5 a4) A0 c0 l0 a1 _ (Kd.C_below HR0.out (by repeat (first | (with_reducible first | exact HB1.out | apply lA_ | apply lN_ | apply lD_ | refine lS_ ?_ GM.out) | exact HB1.out))) HC0.out hlen r1 r2 HH.out).mono ?_; rintro e w9 ⟨v0, rfl, ho, hb⟩; have HB := Aside0.mk (below_step (by repeat (first | (with_reducible first | exact HB1.out | apply lA_ | apply lN_ | apply lD_ | refine lS_ ?_ GM.out) | exact HB1.out)) hb); have HO := Aside0.mk (Kd.R_lower ho (show w.heap.size ≤ _ from Below.size (B := w.heap.size) (w := w) (by repeat (first | (with_reducible first | exact HB1.out | apply lA_ | apply lN_ | apply lD_ | refine lS_ ?_ GM.out) | exact HB1.out)))); clear ho hb))
      go_ret2
      exact ⟨_, rfl, HO.out, HB.out⟩
  · cases h

end Go.Proofs.Ytjlfaoaoinhebaa.A
