-- PRINTED by print.py (a twelfth state) out of the translation. Not trusted: Lean checks it.
import Derived.Test.YtjlfaoaoinhebaaA0
import Derived.Test.YtjlfaoaoinhebaaA3
import Derived.Test.YtjlfaoaoinhebaaA7
import Derived.Test.YtjlfaoaoinhebaaA14
namespace Go.Proofs.Ytjlfaoaoinhebaa.A
open Go.RowKit Go.Proofs.YtjlfaoaoinhebaaW.PrintWords Go.Proofs.YtjlfaoaoinhebaaW.PrintLast Go.Proofs.YtjlfaoaoinhebaaW.PrintMore
attribute [local go_sem] max2_int min2_int max_two min_two max_three min_three max_four min_four   -- for this text's walks alone
set_option linter.unusedVariables false
set_option linter.unusedSimpArgs false

-- by hand: blast.Abort.tpl
theorem blast_Abort.tot (x : S30) (by_ t : Int) (em : Bool) : ∃ v, blast_aborts.f 1 x.f0 x.f1 x.f2 x.f3 x.f4 x.f5.f0 x.f5.f1 by_ t em = some v := by
  simp only [blast_aborts.f, blast_aborts.j0, blast_open.f]
  repeat' split
  all_goals first | exact ⟨_, rfl⟩ | (simp only [Option.bind_some]; split <;> exact ⟨_, rfl⟩) | (refine ⟨_, ?_⟩; simp; done)
def blast_Abort.cv (by_ t : Int) (em : Bool) (x : S30) : Int := (blast_aborts.f 1 x.f0 x.f1 x.f2 x.f3 x.f4 x.f5.f0 x.f5.f1 by_ t em).getD 0
theorem blast_Abort.cv_eq (x : S30) (by_ t : Int) (em : Bool) : blast_aborts.f 1 x.f0 x.f1 x.f2 x.f3 x.f4 x.f5.f0 x.f5.f1 by_ t em = some (blast_Abort.cv by_ t em x) := by
  obtain ⟨v, hv⟩ := blast_Abort.tot x by_ t em
  unfold blast_Abort.cv
  rw [hv]
  rfl
theorem blast_Abort.check (by_ t : Int) (em : Bool) (x : S30) (W : World) : Calls Try.prog 54 #[.agg #[.int .i64 x.f0, .int .i64 x.f1, .int .i64 x.f2, .int .i64 x.f3, .int .i64 x.f4, .int .i64 x.f5.f0, .int .i64 x.f5.f1], .agg #[.int .i64 by_, .int .i64 t, .bool em]] W fun e w' => e = .returned (.int .i64 (blast_Abort.cv by_ t em x)) ∧ Below W.heap.size W w' := by
  refine (blast_aborts.calls 1 x.f0 x.f1 x.f2 x.f3 x.f4 x.f5.f0 x.f5.f1 by_ t em _ W (blast_Abort.cv_eq x by_ t em)).mono ?_
  rintro e w' ⟨rfl, hb⟩
  exact ⟨rfl, hb⟩
def blast_Abort.f (l0 : List (S30)) (a1 : Int) (a2 : Int) : Option (List (S30) × Int) := if l0.length < 1000000000 then some (blast_Clear.chg 6 a2 (blast_Abort.cv 0 a2 false) l0 (blast_Clear.idx (blast_Clear.pr a1) 0 l0)) else none
set_option maxHeartbeats 4000000 in
set_option maxRecDepth 100000 in
theorem blast_Abort.calls (A0 : Option Addr) (c0 : Nat) (l0 : List (S30)) (a1 : Int) (a2 : Int) (r1 : List (S30)) (r2 : Int) (w : World) (hr0 : Kd.C k30 w A0 l0.length l0) (hc0 : l0.length ≤ c0) (h : blast_Abort.f l0 a1 a2 = some (r1, r2)) :
    Calls Try.prog 28 #[.slice A0 l0.length c0, .int .i64 a1, .int .i64 a2] w fun e w' => ∃ v0_ : Value, e = .returned (.tuple #[v0_, .int .i64 r2]) ∧ Kd.R k30 30 w' w.heap.size (fun _ => True) v0_ r1 ∧ Below w.heap.size w w' := by
  unfold blast_Abort.f at h
  split at h
  · rename_i hlen
    have h' := Option.some.inj h
    clear h
    have hu2 := Try.underlying65
    have hu3 := Try.underlying67
    have HX := Aside0.mk (blast_Clear.change 6 54 0 a2 false (blast_Abort.cv 0 a2 false) (by intro ar W; go_simp) (blast_Abort.check 0 a2 false) A0 c0 l0 a1 w hr0 hc0 hlen r1 r2 h')
    clear h' hr0 hc0 hlen
    go_enter Try.func28, Try.ntmps28
    go_wp2_with (first | (go_at_call 45; refine HX.out.mono ?_; rintro e w9 ⟨v0, rfl, ho, hb⟩; have HO := Aside0.mk ho; have HB := Aside0.mk hb; clear ho hb))
    go_ret2
    exact ⟨_, rfl, HO.out, HB.out⟩
  · cases h

end Go.Proofs.Ytjlfaoaoinhebaa.A
