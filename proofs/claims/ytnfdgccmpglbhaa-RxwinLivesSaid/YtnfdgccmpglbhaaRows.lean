/-
  No cell of these rows narrows 'for every input' (looked for: loops, veiled, ifaces, maps, wideKeys, modest, calm, conditions, laid).
  DERIVED. THE GIVEN ROWS OF THIS SEAT. 11 by the template 'for every input the law returns true; each argument reads behind the call as it read before'; 0 by the template 'total and deterministic' (their statements: YtnfdgccmpglbhaaTotals.lean).
  GIVEN WITH THE SEED: the statements are not yours to turn. If you find one false, say at which input.
  Laid BY PROGRAM, IN A SANDBOX (cutbox-rows.mjs): the forced cells as the released guide's own fill.sh prints them over the translation 007f84b74d6b6593… (all of the seat's roots in one cut). By AI agents, Wed Nov 11 2026. No macro, syntax, notation, axiom, sorry.
-/
import Derived.Test.YtnfdgccmpglbhaaChecked
import GoSem.Claim
import GoSem.ClaimJoined
import GoSem.ClaimMapViews
import Derived.JoinedTies
import Derived.KernelRfl
namespace Go.Proofs.Ytnfdgccmpglbhaa
/- THE CELL 'sum', in the pinned program and in every row, IS THE sha256 OF THE DUMP (.gsa) THAT YtnfdgccmpglbhaaProg.lean LOADS. Nothing in Lean hashes anything: it is a label: what it is worth is what the hold of that sum in a sandbox is worth. -/
noncomputable def Try.pinned : Pinned := { name := "ytnfdgccmpglbhaa", sum := "007f84b74d6b65934978e0cc5be56be7083c79d7e3f1652631286986434e215b", checked := Try.checked }
namespace Rows
def none {H : Type} : Left H := { results := [], args := [] }

/-- 'bowlinelaw13.CutFits': WHATEVER THE INPUT: true; the input reads as it did. -/
def cutFitsSpec : ChangeSpec := { name := "cutFits", fn := fun _ => fun
  | [d1, d2, d3] => { results := [.lit (.bool true)], args := [d1, d2, d3] }
  | _ => none }
def cutFitsRow : OpenClaim := { program := "ytnfdgccmpglbhaa", sum := "007f84b74d6b65934978e0cc5be56be7083c79d7e3f1652631286986434e215b", func := "bowline/bowlinelaw13.CutFits", spec := "cutFits", apart := false }
def CutFitsSaid : Prop := cutFitsRow.holds Try.pinned (OpenSpec.ofChange cutFitsSpec)

/-- ITS FALSE NEIGHBOUR: 'it returns false'. Refute it at one input. -/
def cutFitsWrong : ChangeSpec := { name := "cutFits", fn := fun _ => fun
  | [d1, d2, d3] => { results := [.lit (.bool false)], args := [d1, d2, d3] }
  | _ => none }
def CutFitsWrongFalsely : Prop := cutFitsRow.holds Try.pinned (OpenSpec.ofChange cutFitsWrong)

/-- 'bowlinelaw13.CutOne': WHATEVER THE INPUT: true; the input reads as it did. -/
def cutOneSpec : ChangeSpec := { name := "cutOne", fn := fun _ => fun
  | [d1, d2, d3] => { results := [.lit (.bool true)], args := [d1, d2, d3] }
  | _ => none }
def cutOneRow : OpenClaim := { program := "ytnfdgccmpglbhaa", sum := "007f84b74d6b65934978e0cc5be56be7083c79d7e3f1652631286986434e215b", func := "bowline/bowlinelaw13.CutOne", spec := "cutOne", apart := false }
def CutOneSaid : Prop := cutOneRow.holds Try.pinned (OpenSpec.ofChange cutOneSpec)

/-- ITS FALSE NEIGHBOUR: 'it returns false'. Refute it at one input. -/
def cutOneWrong : ChangeSpec := { name := "cutOne", fn := fun _ => fun
  | [d1, d2, d3] => { results := [.lit (.bool false)], args := [d1, d2, d3] }
  | _ => none }
def CutOneWrongFalsely : Prop := cutOneRow.holds Try.pinned (OpenSpec.ofChange cutOneWrong)

/-- 'bowlinelaw13.CutBuilds': WHATEVER THE INPUT: true; the input reads as it did. -/
def cutBuildsSpec : ChangeSpec := { name := "cutBuilds", fn := fun _ => fun
  | [d] => { results := [.lit (.bool true)], args := [d] }
  | _ => none }
def cutBuildsRow : OpenClaim := { program := "ytnfdgccmpglbhaa", sum := "007f84b74d6b65934978e0cc5be56be7083c79d7e3f1652631286986434e215b", func := "bowline/bowlinelaw13.CutBuilds", spec := "cutBuilds", apart := false }
def CutBuildsSaid : Prop := cutBuildsRow.holds Try.pinned (OpenSpec.ofChange cutBuildsSpec)

/-- ITS FALSE NEIGHBOUR: 'it returns false'. Refute it at one input. -/
def cutBuildsWrong : ChangeSpec := { name := "cutBuilds", fn := fun _ => fun
  | [d] => { results := [.lit (.bool false)], args := [d] }
  | _ => none }
def CutBuildsWrongFalsely : Prop := cutBuildsRow.holds Try.pinned (OpenSpec.ofChange cutBuildsWrong)

/-- 'bowlinelaw23.RxwinOnce': WHATEVER THE INPUT: true; the input reads as it did. -/
def rxwinOnceSpec : ChangeSpec := { name := "rxwinOnce", fn := fun _ => fun
  | [d1, d2, d3] => { results := [.lit (.bool true)], args := [d1, d2, d3] }
  | _ => none }
def rxwinOnceRow : OpenClaim := { program := "ytnfdgccmpglbhaa", sum := "007f84b74d6b65934978e0cc5be56be7083c79d7e3f1652631286986434e215b", func := "bowline/bowlinelaw23.RxwinOnce", spec := "rxwinOnce", apart := false }
def RxwinOnceSaid : Prop := rxwinOnceRow.holds Try.pinned (OpenSpec.ofChange rxwinOnceSpec)

/-- ITS FALSE NEIGHBOUR: 'it returns false'. Refute it at one input. -/
def rxwinOnceWrong : ChangeSpec := { name := "rxwinOnce", fn := fun _ => fun
  | [d1, d2, d3] => { results := [.lit (.bool false)], args := [d1, d2, d3] }
  | _ => none }
def RxwinOnceWrongFalsely : Prop := rxwinOnceRow.holds Try.pinned (OpenSpec.ofChange rxwinOnceWrong)

/-- 'bowlinelaw23.RxwinFar': WHATEVER THE INPUT: true; the input reads as it did. -/
def rxwinFarSpec : ChangeSpec := { name := "rxwinFar", fn := fun _ => fun
  | [d1, d2, d3] => { results := [.lit (.bool true)], args := [d1, d2, d3] }
  | _ => none }
def rxwinFarRow : OpenClaim := { program := "ytnfdgccmpglbhaa", sum := "007f84b74d6b65934978e0cc5be56be7083c79d7e3f1652631286986434e215b", func := "bowline/bowlinelaw23.RxwinFar", spec := "rxwinFar", apart := false }
def RxwinFarSaid : Prop := rxwinFarRow.holds Try.pinned (OpenSpec.ofChange rxwinFarSpec)

/-- ITS FALSE NEIGHBOUR: 'it returns false'. Refute it at one input. -/
def rxwinFarWrong : ChangeSpec := { name := "rxwinFar", fn := fun _ => fun
  | [d1, d2, d3] => { results := [.lit (.bool false)], args := [d1, d2, d3] }
  | _ => none }
def RxwinFarWrongFalsely : Prop := rxwinFarRow.holds Try.pinned (OpenSpec.ofChange rxwinFarWrong)

/-- 'bowlinelaw23.RxwinLives': WHATEVER THE INPUT: true; the input reads as it did. -/
def rxwinLivesSpec : ChangeSpec := { name := "rxwinLives", fn := fun _ => fun
  | [d1, d2, d3, d4] => { results := [.lit (.bool true)], args := [d1, d2, d3, d4] }
  | _ => none }
def rxwinLivesRow : OpenClaim := { program := "ytnfdgccmpglbhaa", sum := "007f84b74d6b65934978e0cc5be56be7083c79d7e3f1652631286986434e215b", func := "bowline/bowlinelaw23.RxwinLives", spec := "rxwinLives", apart := false }
def RxwinLivesSaid : Prop := rxwinLivesRow.holds Try.pinned (OpenSpec.ofChange rxwinLivesSpec)

/-- ITS FALSE NEIGHBOUR: 'it returns false'. Refute it at one input. -/
def rxwinLivesWrong : ChangeSpec := { name := "rxwinLives", fn := fun _ => fun
  | [d1, d2, d3, d4] => { results := [.lit (.bool false)], args := [d1, d2, d3, d4] }
  | _ => none }
def RxwinLivesWrongFalsely : Prop := rxwinLivesRow.holds Try.pinned (OpenSpec.ofChange rxwinLivesWrong)

/-- 'bowlinelaw11.StatusReads': WHATEVER THE INPUT: true; the input reads as it did. -/
def statusReadsSpec : ChangeSpec := { name := "statusReads", fn := fun _ => fun
  | [d1, d2] => { results := [.lit (.bool true)], args := [d1, d2] }
  | _ => none }
def statusReadsRow : OpenClaim := { program := "ytnfdgccmpglbhaa", sum := "007f84b74d6b65934978e0cc5be56be7083c79d7e3f1652631286986434e215b", func := "bowline/bowlinelaw11.StatusReads", spec := "statusReads", unfollowed := true, recurses := true, apart := false }
def StatusReadsSaid : Prop := statusReadsRow.holds Try.pinned (OpenSpec.ofChange statusReadsSpec)

/-- ITS FALSE NEIGHBOUR: 'it returns false'. Refute it at one input. -/
def statusReadsWrong : ChangeSpec := { name := "statusReads", fn := fun _ => fun
  | [d1, d2] => { results := [.lit (.bool false)], args := [d1, d2] }
  | _ => none }
def StatusReadsWrongFalsely : Prop := statusReadsRow.holds Try.pinned (OpenSpec.ofChange statusReadsWrong)

/-- 'bowlinelaw11.StatusBack': WHATEVER THE INPUT: true; the input reads as it did. -/
def statusBackSpec : ChangeSpec := { name := "statusBack", fn := fun _ => fun
  | [d1, d2, d3] => { results := [.lit (.bool true)], args := [d1, d2, d3] }
  | _ => none }
def statusBackRow : OpenClaim := { program := "ytnfdgccmpglbhaa", sum := "007f84b74d6b65934978e0cc5be56be7083c79d7e3f1652631286986434e215b", func := "bowline/bowlinelaw11.StatusBack", spec := "statusBack", unfollowed := true, recurses := true, apart := false }
def StatusBackSaid : Prop := statusBackRow.holds Try.pinned (OpenSpec.ofChange statusBackSpec)

/-- ITS FALSE NEIGHBOUR: 'it returns false'. Refute it at one input. -/
def statusBackWrong : ChangeSpec := { name := "statusBack", fn := fun _ => fun
  | [d1, d2, d3] => { results := [.lit (.bool false)], args := [d1, d2, d3] }
  | _ => none }
def StatusBackWrongFalsely : Prop := statusBackRow.holds Try.pinned (OpenSpec.ofChange statusBackWrong)

/-- 'bowlinelaw11.StatusGrows': WHATEVER THE INPUT: true; the input reads as it did. -/
def statusGrowsSpec : ChangeSpec := { name := "statusGrows", fn := fun _ => fun
  | [d1, d2, d3] => { results := [.lit (.bool true)], args := [d1, d2, d3] }
  | _ => none }
def statusGrowsRow : OpenClaim := { program := "ytnfdgccmpglbhaa", sum := "007f84b74d6b65934978e0cc5be56be7083c79d7e3f1652631286986434e215b", func := "bowline/bowlinelaw11.StatusGrows", spec := "statusGrows", unfollowed := true, recurses := true, apart := false }
def StatusGrowsSaid : Prop := statusGrowsRow.holds Try.pinned (OpenSpec.ofChange statusGrowsSpec)

/-- ITS FALSE NEIGHBOUR: 'it returns false'. Refute it at one input. -/
def statusGrowsWrong : ChangeSpec := { name := "statusGrows", fn := fun _ => fun
  | [d1, d2, d3] => { results := [.lit (.bool false)], args := [d1, d2, d3] }
  | _ => none }
def StatusGrowsWrongFalsely : Prop := statusGrowsRow.holds Try.pinned (OpenSpec.ofChange statusGrowsWrong)

/-- 'bowlinelaw11.StatusWrites': WHATEVER THE INPUT: true; the input reads as it did. -/
def statusWritesSpec : ChangeSpec := { name := "statusWrites", fn := fun _ => fun
  | [d1, d2, d3] => { results := [.lit (.bool true)], args := [d1, d2, d3] }
  | _ => none }
def statusWritesRow : OpenClaim := { program := "ytnfdgccmpglbhaa", sum := "007f84b74d6b65934978e0cc5be56be7083c79d7e3f1652631286986434e215b", func := "bowline/bowlinelaw11.StatusWrites", spec := "statusWrites", unfollowed := true, recurses := true, apart := false }
def StatusWritesSaid : Prop := statusWritesRow.holds Try.pinned (OpenSpec.ofChange statusWritesSpec)

/-- ITS FALSE NEIGHBOUR: 'it returns false'. Refute it at one input. -/
def statusWritesWrong : ChangeSpec := { name := "statusWrites", fn := fun _ => fun
  | [d1, d2, d3] => { results := [.lit (.bool false)], args := [d1, d2, d3] }
  | _ => none }
def StatusWritesWrongFalsely : Prop := statusWritesRow.holds Try.pinned (OpenSpec.ofChange statusWritesWrong)

/-- 'bowlinelaw38.BsrLevels': WHATEVER THE INPUT: true; the input reads as it did. -/
def bsrLevelsSpec : ChangeSpec := { name := "bsrLevels", fn := fun _ => fun
  | [d1, d2, d3, d4] => { results := [.lit (.bool true)], args := [d1, d2, d3, d4] }
  | _ => none }
def bsrLevelsRow : OpenClaim := { program := "ytnfdgccmpglbhaa", sum := "007f84b74d6b65934978e0cc5be56be7083c79d7e3f1652631286986434e215b", func := "bowline/bowlinelaw38.BsrLevels", spec := "bsrLevels", apart := false }
def BsrLevelsSaid : Prop := bsrLevelsRow.holds Try.pinned (OpenSpec.ofChange bsrLevelsSpec)

/-- ITS FALSE NEIGHBOUR: 'it returns false'. Refute it at one input. -/
def bsrLevelsWrong : ChangeSpec := { name := "bsrLevels", fn := fun _ => fun
  | [d1, d2, d3, d4] => { results := [.lit (.bool false)], args := [d1, d2, d3, d4] }
  | _ => none }
def BsrLevelsWrongFalsely : Prop := bsrLevelsRow.holds Try.pinned (OpenSpec.ofChange bsrLevelsWrong)

/- THE SECOND FORM. 'bulk': how many values and letters a reading holds, each counted each time it is reached (what is shared counts as often as it is met; a slice's spare places count too). A statement '..UptoSaid' is the law's where the arguments, and the package variables that the reading takes, are together of bulk at most 1048576: NARROWER than '..Said'. Prove '..Said' where nothing that the law and all that it calls make is longer than what came in: it says more and counts as full. Else prove '..UptoSaid'. A law counts once. -/
mutual
def uptoBulk {H : Type} : DataW H → Nat
  | .lit (.string bytes) => bytes.length + 1
  | .lit _ => 1
  | .nil => 1
  | .ptr d => uptoBulk d + 1
  | .slice elems spare => uptoBulkAll elems + uptoBulkAll spare + 1
  | .agg parts => uptoBulkAll parts + 1
  | .iface _ d => uptoBulk d + 1
  | .map entries => uptoBulkEntries entries + 1
  | .held _ => 1
def uptoBulkAll {H : Type} : List (DataW H) → Nat
  | [] => 0
  | d :: r => uptoBulk d + uptoBulkAll r
def uptoBulkEntries {H : Type} : List (Lit × DataW H) → Nat
  | [] => 0
  | x :: r => uptoBulkEntry x + uptoBulkEntries r
def uptoBulkEntry {H : Type} : Lit × DataW H → Nat
  | (.string bytes, d) => bytes.length + uptoBulk d + 1
  | (_, d) => uptoBulk d + 1
 end
def uptoSmall : (H : Type) → List (DataW H) → Bool := fun _ ds => decide (uptoBulkAll ds ≤ 1048576)
def OpenSpec.upto (s : _root_.Go.ChangeSpec) : _root_.Go.OpenSpec := { _root_.Go.OpenSpec.ofChange s with cond := some uptoSmall }

/-- 'bowlinelaw13.CutFits', WHERE WHAT IT READS IS OF BULK AT MOST 1048576: true; the input reads as it did. -/
def cutFitsUptoRow : OpenClaim := { program := "ytnfdgccmpglbhaa", sum := "007f84b74d6b65934978e0cc5be56be7083c79d7e3f1652631286986434e215b", func := "bowline/bowlinelaw13.CutFits", spec := "cutFits", apart := false, narrowed := true }
def CutFitsUptoSaid : Prop := cutFitsUptoRow.holds Try.pinned (OpenSpec.upto cutFitsSpec)

/-- 'bowlinelaw13.CutOne', WHERE WHAT IT READS IS OF BULK AT MOST 1048576: true; the input reads as it did. -/
def cutOneUptoRow : OpenClaim := { program := "ytnfdgccmpglbhaa", sum := "007f84b74d6b65934978e0cc5be56be7083c79d7e3f1652631286986434e215b", func := "bowline/bowlinelaw13.CutOne", spec := "cutOne", apart := false, narrowed := true }
def CutOneUptoSaid : Prop := cutOneUptoRow.holds Try.pinned (OpenSpec.upto cutOneSpec)

/-- 'bowlinelaw13.CutBuilds', WHERE WHAT IT READS IS OF BULK AT MOST 1048576: true; the input reads as it did. -/
def cutBuildsUptoRow : OpenClaim := { program := "ytnfdgccmpglbhaa", sum := "007f84b74d6b65934978e0cc5be56be7083c79d7e3f1652631286986434e215b", func := "bowline/bowlinelaw13.CutBuilds", spec := "cutBuilds", apart := false, narrowed := true }
def CutBuildsUptoSaid : Prop := cutBuildsUptoRow.holds Try.pinned (OpenSpec.upto cutBuildsSpec)

/-- 'bowlinelaw23.RxwinOnce', WHERE WHAT IT READS IS OF BULK AT MOST 1048576: true; the input reads as it did. -/
def rxwinOnceUptoRow : OpenClaim := { program := "ytnfdgccmpglbhaa", sum := "007f84b74d6b65934978e0cc5be56be7083c79d7e3f1652631286986434e215b", func := "bowline/bowlinelaw23.RxwinOnce", spec := "rxwinOnce", apart := false, narrowed := true }
def RxwinOnceUptoSaid : Prop := rxwinOnceUptoRow.holds Try.pinned (OpenSpec.upto rxwinOnceSpec)

/-- 'bowlinelaw23.RxwinFar', WHERE WHAT IT READS IS OF BULK AT MOST 1048576: true; the input reads as it did. -/
def rxwinFarUptoRow : OpenClaim := { program := "ytnfdgccmpglbhaa", sum := "007f84b74d6b65934978e0cc5be56be7083c79d7e3f1652631286986434e215b", func := "bowline/bowlinelaw23.RxwinFar", spec := "rxwinFar", apart := false, narrowed := true }
def RxwinFarUptoSaid : Prop := rxwinFarUptoRow.holds Try.pinned (OpenSpec.upto rxwinFarSpec)

/-- 'bowlinelaw23.RxwinLives', WHERE WHAT IT READS IS OF BULK AT MOST 1048576: true; the input reads as it did. -/
def rxwinLivesUptoRow : OpenClaim := { program := "ytnfdgccmpglbhaa", sum := "007f84b74d6b65934978e0cc5be56be7083c79d7e3f1652631286986434e215b", func := "bowline/bowlinelaw23.RxwinLives", spec := "rxwinLives", apart := false, narrowed := true }
def RxwinLivesUptoSaid : Prop := rxwinLivesUptoRow.holds Try.pinned (OpenSpec.upto rxwinLivesSpec)

/-- 'bowlinelaw11.StatusReads', WHERE WHAT IT READS IS OF BULK AT MOST 1048576: true; the input reads as it did. -/
def statusReadsUptoRow : OpenClaim := { program := "ytnfdgccmpglbhaa", sum := "007f84b74d6b65934978e0cc5be56be7083c79d7e3f1652631286986434e215b", func := "bowline/bowlinelaw11.StatusReads", spec := "statusReads", unfollowed := true, recurses := true, apart := false, narrowed := true }
def StatusReadsUptoSaid : Prop := statusReadsUptoRow.holds Try.pinned (OpenSpec.upto statusReadsSpec)

/-- 'bowlinelaw11.StatusBack', WHERE WHAT IT READS IS OF BULK AT MOST 1048576: true; the input reads as it did. -/
def statusBackUptoRow : OpenClaim := { program := "ytnfdgccmpglbhaa", sum := "007f84b74d6b65934978e0cc5be56be7083c79d7e3f1652631286986434e215b", func := "bowline/bowlinelaw11.StatusBack", spec := "statusBack", unfollowed := true, recurses := true, apart := false, narrowed := true }
def StatusBackUptoSaid : Prop := statusBackUptoRow.holds Try.pinned (OpenSpec.upto statusBackSpec)

/-- 'bowlinelaw11.StatusGrows', WHERE WHAT IT READS IS OF BULK AT MOST 1048576: true; the input reads as it did. -/
def statusGrowsUptoRow : OpenClaim := { program := "ytnfdgccmpglbhaa", sum := "007f84b74d6b65934978e0cc5be56be7083c79d7e3f1652631286986434e215b", func := "bowline/bowlinelaw11.StatusGrows", spec := "statusGrows", unfollowed := true, recurses := true, apart := false, narrowed := true }
def StatusGrowsUptoSaid : Prop := statusGrowsUptoRow.holds Try.pinned (OpenSpec.upto statusGrowsSpec)

/-- 'bowlinelaw11.StatusWrites', WHERE WHAT IT READS IS OF BULK AT MOST 1048576: true; the input reads as it did. -/
def statusWritesUptoRow : OpenClaim := { program := "ytnfdgccmpglbhaa", sum := "007f84b74d6b65934978e0cc5be56be7083c79d7e3f1652631286986434e215b", func := "bowline/bowlinelaw11.StatusWrites", spec := "statusWrites", unfollowed := true, recurses := true, apart := false, narrowed := true }
def StatusWritesUptoSaid : Prop := statusWritesUptoRow.holds Try.pinned (OpenSpec.upto statusWritesSpec)

/-- 'bowlinelaw38.BsrLevels', WHERE WHAT IT READS IS OF BULK AT MOST 1048576: true; the input reads as it did. -/
def bsrLevelsUptoRow : OpenClaim := { program := "ytnfdgccmpglbhaa", sum := "007f84b74d6b65934978e0cc5be56be7083c79d7e3f1652631286986434e215b", func := "bowline/bowlinelaw38.BsrLevels", spec := "bsrLevels", apart := false, narrowed := true }
def BsrLevelsUptoSaid : Prop := bsrLevelsUptoRow.holds Try.pinned (OpenSpec.upto bsrLevelsSpec)

end Rows
end Go.Proofs.Ytnfdgccmpglbhaa
