/-
  No cell of these rows narrows 'for every input' (looked for: loops, veiled, ifaces, maps, wideKeys, modest, calm, conditions, laid).
  DERIVED. THE GIVEN ROWS OF THIS SEAT. 8 by the template 'for every input the law returns true; each argument reads behind the call as it read before'; 0 by the template 'total and deterministic' (their statements: YtjlfaoaoinhebaaTotals.lean).
  GIVEN WITH THE SEED: the statements are not yours to turn. If you find one false, say at which input.
  Laid BY PROGRAM, IN A SANDBOX (cutbox-rows.mjs): the forced cells as the released guide's own fill.sh prints them over the translation 1cb47c6a2740600f… (all of the seat's roots in one cut). By AI agents, Wed Nov 11 2026. No macro, syntax, notation, axiom, sorry.
-/
import Derived.Test.YtjlfaoaoinhebaaChecked
import GoSem.Claim
import GoSem.ClaimJoined
import GoSem.ClaimMapViews
import Derived.JoinedTies
import Derived.KernelRfl
namespace Go.Proofs.Ytjlfaoaoinhebaa
/- THE CELL 'sum', in the pinned program and in every row, IS THE sha256 OF THE DUMP (.gsa) THAT YtjlfaoaoinhebaaProg.lean LOADS. Nothing in Lean hashes anything: it is a label: what it is worth is what the hold of that sum in a sandbox is worth. -/
noncomputable def Try.pinned : Pinned := { name := "ytjlfaoaoinhebaa", sum := "1cb47c6a2740600f2ae739f07f84933c59143aaebe1cab3cf3d7060085b5bcad", checked := Try.checked }
namespace Rows
def none {H : Type} : Left H := { results := [], args := [] }

/-- 'skiarealaw51.BlastChecks': WHATEVER THE INPUT: true; the input reads as it did. -/
def blastChecksSpec : ChangeSpec := { name := "blastChecks", fn := fun _ => fun
  | [d] => { results := [.lit (.bool true)], args := [d] }
  | _ => none }
def blastChecksRow : OpenClaim := { program := "ytjlfaoaoinhebaa", sum := "1cb47c6a2740600f2ae739f07f84933c59143aaebe1cab3cf3d7060085b5bcad", func := "skiarea/skiarealaw51.BlastChecks", spec := "blastChecks", unfollowed := true, recurses := true, apart := false }
def BlastChecksSaid : Prop := blastChecksRow.holds Try.pinned (OpenSpec.ofChange blastChecksSpec)

/-- ITS FALSE NEIGHBOUR: 'it returns false'. Refute it at one input. -/
def blastChecksWrong : ChangeSpec := { name := "blastChecks", fn := fun _ => fun
  | [d] => { results := [.lit (.bool false)], args := [d] }
  | _ => none }
def BlastChecksWrongFalsely : Prop := blastChecksRow.holds Try.pinned (OpenSpec.ofChange blastChecksWrong)

/-- 'skiarealaw51.BlastPlans': WHATEVER THE INPUT: true; the input reads as it did. -/
def blastPlansSpec : ChangeSpec := { name := "blastPlans", fn := fun _ => fun
  | [d1, d2] => { results := [.lit (.bool true)], args := [d1, d2] }
  | _ => none }
def blastPlansRow : OpenClaim := { program := "ytjlfaoaoinhebaa", sum := "1cb47c6a2740600f2ae739f07f84933c59143aaebe1cab3cf3d7060085b5bcad", func := "skiarea/skiarealaw51.BlastPlans", spec := "blastPlans", unfollowed := true, recurses := true, apart := false }
def BlastPlansSaid : Prop := blastPlansRow.holds Try.pinned (OpenSpec.ofChange blastPlansSpec)

/-- ITS FALSE NEIGHBOUR: 'it returns false'. Refute it at one input. -/
def blastPlansWrong : ChangeSpec := { name := "blastPlans", fn := fun _ => fun
  | [d1, d2] => { results := [.lit (.bool false)], args := [d1, d2] }
  | _ => none }
def BlastPlansWrongFalsely : Prop := blastPlansRow.holds Try.pinned (OpenSpec.ofChange blastPlansWrong)

/-- 'skiarealaw51.BlastArms': WHATEVER THE INPUT: true; the input reads as it did. -/
def blastArmsSpec : ChangeSpec := { name := "blastArms", fn := fun _ => fun
  | [d1, d2, d3, d4, d5] => { results := [.lit (.bool true)], args := [d1, d2, d3, d4, d5] }
  | _ => none }
def blastArmsRow : OpenClaim := { program := "ytjlfaoaoinhebaa", sum := "1cb47c6a2740600f2ae739f07f84933c59143aaebe1cab3cf3d7060085b5bcad", func := "skiarea/skiarealaw51.BlastArms", spec := "blastArms", unfollowed := true, recurses := true, apart := false }
def BlastArmsSaid : Prop := blastArmsRow.holds Try.pinned (OpenSpec.ofChange blastArmsSpec)

/-- ITS FALSE NEIGHBOUR: 'it returns false'. Refute it at one input. -/
def blastArmsWrong : ChangeSpec := { name := "blastArms", fn := fun _ => fun
  | [d1, d2, d3, d4, d5] => { results := [.lit (.bool false)], args := [d1, d2, d3, d4, d5] }
  | _ => none }
def BlastArmsWrongFalsely : Prop := blastArmsRow.holds Try.pinned (OpenSpec.ofChange blastArmsWrong)

/-- 'skiarealaw51.BlastActive': WHATEVER THE INPUT: true; the input reads as it did. -/
def blastActiveSpec : ChangeSpec := { name := "blastActive", fn := fun _ => fun
  | [d] => { results := [.lit (.bool true)], args := [d] }
  | _ => none }
def blastActiveRow : OpenClaim := { program := "ytjlfaoaoinhebaa", sum := "1cb47c6a2740600f2ae739f07f84933c59143aaebe1cab3cf3d7060085b5bcad", func := "skiarea/skiarealaw51.BlastActive", spec := "blastActive", unfollowed := true, recurses := true, apart := false }
def BlastActiveSaid : Prop := blastActiveRow.holds Try.pinned (OpenSpec.ofChange blastActiveSpec)

/-- ITS FALSE NEIGHBOUR: 'it returns false'. Refute it at one input. -/
def blastActiveWrong : ChangeSpec := { name := "blastActive", fn := fun _ => fun
  | [d] => { results := [.lit (.bool false)], args := [d] }
  | _ => none }
def BlastActiveWrongFalsely : Prop := blastActiveRow.holds Try.pinned (OpenSpec.ofChange blastActiveWrong)

/-- 'skiarealaw51.BlastFires': WHATEVER THE INPUT: true; the input reads as it did. -/
def blastFiresSpec : ChangeSpec := { name := "blastFires", fn := fun _ => fun
  | [d1, d2, d3, d4, d5, d6] => { results := [.lit (.bool true)], args := [d1, d2, d3, d4, d5, d6] }
  | _ => none }
def blastFiresRow : OpenClaim := { program := "ytjlfaoaoinhebaa", sum := "1cb47c6a2740600f2ae739f07f84933c59143aaebe1cab3cf3d7060085b5bcad", func := "skiarea/skiarealaw51.BlastFires", spec := "blastFires", unfollowed := true, recurses := true, apart := false }
def BlastFiresSaid : Prop := blastFiresRow.holds Try.pinned (OpenSpec.ofChange blastFiresSpec)

/-- ITS FALSE NEIGHBOUR: 'it returns false'. Refute it at one input. -/
def blastFiresWrong : ChangeSpec := { name := "blastFires", fn := fun _ => fun
  | [d1, d2, d3, d4, d5, d6] => { results := [.lit (.bool false)], args := [d1, d2, d3, d4, d5, d6] }
  | _ => none }
def BlastFiresWrongFalsely : Prop := blastFiresRow.holds Try.pinned (OpenSpec.ofChange blastFiresWrong)

/-- 'skiarealaw51.BlastCleared': WHATEVER THE INPUT: true; the input reads as it did. -/
def blastClearedSpec : ChangeSpec := { name := "blastCleared", fn := fun _ => fun
  | [d] => { results := [.lit (.bool true)], args := [d] }
  | _ => none }
def blastClearedRow : OpenClaim := { program := "ytjlfaoaoinhebaa", sum := "1cb47c6a2740600f2ae739f07f84933c59143aaebe1cab3cf3d7060085b5bcad", func := "skiarea/skiarealaw51.BlastCleared", spec := "blastCleared", unfollowed := true, recurses := true, apart := false }
def BlastClearedSaid : Prop := blastClearedRow.holds Try.pinned (OpenSpec.ofChange blastClearedSpec)

/-- ITS FALSE NEIGHBOUR: 'it returns false'. Refute it at one input. -/
def blastClearedWrong : ChangeSpec := { name := "blastCleared", fn := fun _ => fun
  | [d] => { results := [.lit (.bool false)], args := [d] }
  | _ => none }
def BlastClearedWrongFalsely : Prop := blastClearedRow.holds Try.pinned (OpenSpec.ofChange blastClearedWrong)

/-- 'skiarealaw51.BlastWaits': WHATEVER THE INPUT: true; the input reads as it did. -/
def blastWaitsSpec : ChangeSpec := { name := "blastWaits", fn := fun _ => fun
  | [d1, d2] => { results := [.lit (.bool true)], args := [d1, d2] }
  | _ => none }
def blastWaitsRow : OpenClaim := { program := "ytjlfaoaoinhebaa", sum := "1cb47c6a2740600f2ae739f07f84933c59143aaebe1cab3cf3d7060085b5bcad", func := "skiarea/skiarealaw51.BlastWaits", spec := "blastWaits", unfollowed := true, recurses := true, apart := false }
def BlastWaitsSaid : Prop := blastWaitsRow.holds Try.pinned (OpenSpec.ofChange blastWaitsSpec)

/-- ITS FALSE NEIGHBOUR: 'it returns false'. Refute it at one input. -/
def blastWaitsWrong : ChangeSpec := { name := "blastWaits", fn := fun _ => fun
  | [d1, d2] => { results := [.lit (.bool false)], args := [d1, d2] }
  | _ => none }
def BlastWaitsWrongFalsely : Prop := blastWaitsRow.holds Try.pinned (OpenSpec.ofChange blastWaitsWrong)

/-- 'skiarealaw51.BlastOthers': WHATEVER THE INPUT: true; the input reads as it did. -/
def blastOthersSpec : ChangeSpec := { name := "blastOthers", fn := fun _ => fun
  | [d1, d2] => { results := [.lit (.bool true)], args := [d1, d2] }
  | _ => none }
def blastOthersRow : OpenClaim := { program := "ytjlfaoaoinhebaa", sum := "1cb47c6a2740600f2ae739f07f84933c59143aaebe1cab3cf3d7060085b5bcad", func := "skiarea/skiarealaw51.BlastOthers", spec := "blastOthers", unfollowed := true, recurses := true, apart := false }
def BlastOthersSaid : Prop := blastOthersRow.holds Try.pinned (OpenSpec.ofChange blastOthersSpec)

/-- ITS FALSE NEIGHBOUR: 'it returns false'. Refute it at one input. -/
def blastOthersWrong : ChangeSpec := { name := "blastOthers", fn := fun _ => fun
  | [d1, d2] => { results := [.lit (.bool false)], args := [d1, d2] }
  | _ => none }
def BlastOthersWrongFalsely : Prop := blastOthersRow.holds Try.pinned (OpenSpec.ofChange blastOthersWrong)

/- THE SECOND FORM. 'bulk': how many values and letters a reading holds, each counted each time it is reached (what is shared counts as often as it is met; a slice's spare places count too). A statement '..UptoSaid' is the law's where the arguments, and the package variables that the reading takes, are together of bulk at most 1048576: NARROWER than '..Said'. Prove '..Said' where nothing that the law and all that it calls make is longer than what came in: it says more and counts as full. Else prove '..UptoSaid'. A law counts once. -/
mutual
def uptoBulk {H : Type} : DataW H → Nat
  | .lit (.string bytes) => bytes.length + 1
  | .lit _ => 1
  | .nil => 1
  | .ptr d => uptoBulk d + 1
  | .slice elems spare => uptoBulkAll elems + uptoBulkAll spare + 1
  | .agg parts => uptoBulkAll parts + 1
  | .iface _ d => uptoBulk d + 1
  | .map entries => uptoBulkEntries entries + 1
  | .held _ => 1
def uptoBulkAll {H : Type} : List (DataW H) → Nat
  | [] => 0
  | d :: r => uptoBulk d + uptoBulkAll r
def uptoBulkEntries {H : Type} : List (Lit × DataW H) → Nat
  | [] => 0
  | x :: r => uptoBulkEntry x + uptoBulkEntries r
def uptoBulkEntry {H : Type} : Lit × DataW H → Nat
  | (.string bytes, d) => bytes.length + uptoBulk d + 1
  | (_, d) => uptoBulk d + 1
 end
def uptoSmall : (H : Type) → List (DataW H) → Bool := fun _ ds => decide (uptoBulkAll ds ≤ 1048576)
def OpenSpec.upto (s : _root_.Go.ChangeSpec) : _root_.Go.OpenSpec := { _root_.Go.OpenSpec.ofChange s with cond := some uptoSmall }

/-- 'skiarealaw51.BlastChecks', WHERE WHAT IT READS IS OF BULK AT MOST 1048576: true; the input reads as it did. -/
def blastChecksUptoRow : OpenClaim := { program := "ytjlfaoaoinhebaa", sum := "1cb47c6a2740600f2ae739f07f84933c59143aaebe1cab3cf3d7060085b5bcad", func := "skiarea/skiarealaw51.BlastChecks", spec := "blastChecks", unfollowed := true, recurses := true, apart := false, narrowed := true }
def BlastChecksUptoSaid : Prop := blastChecksUptoRow.holds Try.pinned (OpenSpec.upto blastChecksSpec)

/-- 'skiarealaw51.BlastPlans', WHERE WHAT IT READS IS OF BULK AT MOST 1048576: true; the input reads as it did. -/
def blastPlansUptoRow : OpenClaim := { program := "ytjlfaoaoinhebaa", sum := "1cb47c6a2740600f2ae739f07f84933c59143aaebe1cab3cf3d7060085b5bcad", func := "skiarea/skiarealaw51.BlastPlans", spec := "blastPlans", unfollowed := true, recurses := true, apart := false, narrowed := true }
def BlastPlansUptoSaid : Prop := blastPlansUptoRow.holds Try.pinned (OpenSpec.upto blastPlansSpec)

/-- 'skiarealaw51.BlastArms', WHERE WHAT IT READS IS OF BULK AT MOST 1048576: true; the input reads as it did. -/
def blastArmsUptoRow : OpenClaim := { program := "ytjlfaoaoinhebaa", sum := "1cb47c6a2740600f2ae739f07f84933c59143aaebe1cab3cf3d7060085b5bcad", func := "skiarea/skiarealaw51.BlastArms", spec := "blastArms", unfollowed := true, recurses := true, apart := false, narrowed := true }
def BlastArmsUptoSaid : Prop := blastArmsUptoRow.holds Try.pinned (OpenSpec.upto blastArmsSpec)

/-- 'skiarealaw51.BlastActive', WHERE WHAT IT READS IS OF BULK AT MOST 1048576: true; the input reads as it did. -/
def blastActiveUptoRow : OpenClaim := { program := "ytjlfaoaoinhebaa", sum := "1cb47c6a2740600f2ae739f07f84933c59143aaebe1cab3cf3d7060085b5bcad", func := "skiarea/skiarealaw51.BlastActive", spec := "blastActive", unfollowed := true, recurses := true, apart := false, narrowed := true }
def BlastActiveUptoSaid : Prop := blastActiveUptoRow.holds Try.pinned (OpenSpec.upto blastActiveSpec)

/-- 'skiarealaw51.BlastFires', WHERE WHAT IT READS IS OF BULK AT MOST 1048576: true; the input reads as it did. -/
def blastFiresUptoRow : OpenClaim := { program := "ytjlfaoaoinhebaa", sum := "1cb47c6a2740600f2ae739f07f84933c59143aaebe1cab3cf3d7060085b5bcad", func := "skiarea/skiarealaw51.BlastFires", spec := "blastFires", unfollowed := true, recurses := true, apart := false, narrowed := true }
def BlastFiresUptoSaid : Prop := blastFiresUptoRow.holds Try.pinned (OpenSpec.upto blastFiresSpec)

/-- 'skiarealaw51.BlastCleared', WHERE WHAT IT READS IS OF BULK AT MOST 1048576: true; the input reads as it did. -/
def blastClearedUptoRow : OpenClaim := { program := "ytjlfaoaoinhebaa", sum := "1cb47c6a2740600f2ae739f07f84933c59143aaebe1cab3cf3d7060085b5bcad", func := "skiarea/skiarealaw51.BlastCleared", spec := "blastCleared", unfollowed := true, recurses := true, apart := false, narrowed := true }
def BlastClearedUptoSaid : Prop := blastClearedUptoRow.holds Try.pinned (OpenSpec.upto blastClearedSpec)

/-- 'skiarealaw51.BlastWaits', WHERE WHAT IT READS IS OF BULK AT MOST 1048576: true; the input reads as it did. -/
def blastWaitsUptoRow : OpenClaim := { program := "ytjlfaoaoinhebaa", sum := "1cb47c6a2740600f2ae739f07f84933c59143aaebe1cab3cf3d7060085b5bcad", func := "skiarea/skiarealaw51.BlastWaits", spec := "blastWaits", unfollowed := true, recurses := true, apart := false, narrowed := true }
def BlastWaitsUptoSaid : Prop := blastWaitsUptoRow.holds Try.pinned (OpenSpec.upto blastWaitsSpec)

/-- 'skiarealaw51.BlastOthers', WHERE WHAT IT READS IS OF BULK AT MOST 1048576: true; the input reads as it did. -/
def blastOthersUptoRow : OpenClaim := { program := "ytjlfaoaoinhebaa", sum := "1cb47c6a2740600f2ae739f07f84933c59143aaebe1cab3cf3d7060085b5bcad", func := "skiarea/skiarealaw51.BlastOthers", spec := "blastOthers", unfollowed := true, recurses := true, apart := false, narrowed := true }
def BlastOthersUptoSaid : Prop := blastOthersUptoRow.holds Try.pinned (OpenSpec.upto blastOthersSpec)

end Rows
end Go.Proofs.Ytjlfaoaoinhebaa
