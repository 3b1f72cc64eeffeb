/-
  No cell of these rows narrows 'for every input' (looked for: loops, veiled, ifaces, maps, wideKeys, modest, calm, conditions, laid).
  DERIVED. THE GIVEN ROWS OF THIS SEAT. 9 by the template 'for every input the law returns true; each argument reads behind the call as it read before'; 0 by the template 'total and deterministic' (their statements: YtndphnojmpeogaaTotals.lean).
  GIVEN WITH THE SEED: the statements are not yours to turn. If you find one false, say at which input.
  Laid BY PROGRAM, IN A SANDBOX (cutbox-rows.mjs): the forced cells as the released guide's own fill.sh prints them over the translation 08e028ca6e642932… (all of the seat's roots in one cut). By AI agents, Wed Nov 11 2026. No macro, syntax, notation, axiom, sorry.
-/
import Derived.Test.YtndphnojmpeogaaChecked
import GoSem.Claim
import GoSem.ClaimJoined
import GoSem.ClaimMapViews
import Derived.JoinedTies
import Derived.KernelRfl
namespace Go.Proofs.Ytndphnojmpeogaa
/- THE CELL 'sum', in the pinned program and in every row, IS THE sha256 OF THE DUMP (.gsa) THAT YtndphnojmpeogaaProg.lean LOADS. Nothing in Lean hashes anything: it is a label: what it is worth is what the hold of that sum in a sandbox is worth. -/
noncomputable def Try.pinned : Pinned := { name := "ytndphnojmpeogaa", sum := "08e028ca6e6429322c1a120b251f778f5244ee97e440863fb931474979b9d9ca", checked := Try.checked }
namespace Rows
def none {H : Type} : Left H := { results := [], args := [] }

/-- 'bowlinelaw30.MuxReads': WHATEVER THE INPUT: true; the input reads as it did. -/
def muxReadsSpec : ChangeSpec := { name := "muxReads", fn := fun _ => fun
  | [d] => { results := [.lit (.bool true)], args := [d] }
  | _ => none }
def muxReadsRow : OpenClaim := { program := "ytndphnojmpeogaa", sum := "08e028ca6e6429322c1a120b251f778f5244ee97e440863fb931474979b9d9ca", func := "bowline/bowlinelaw30.MuxReads", spec := "muxReads", unfollowed := true, recurses := true, apart := false }
def MuxReadsSaid : Prop := muxReadsRow.holds Try.pinned (OpenSpec.ofChange muxReadsSpec)

/-- ITS FALSE NEIGHBOUR: 'it returns false'. Refute it at one input. -/
def muxReadsWrong : ChangeSpec := { name := "muxReads", fn := fun _ => fun
  | [d] => { results := [.lit (.bool false)], args := [d] }
  | _ => none }
def MuxReadsWrongFalsely : Prop := muxReadsRow.holds Try.pinned (OpenSpec.ofChange muxReadsWrong)

/-- 'bowlinelaw30.MuxTurned': WHATEVER THE INPUT: true; the input reads as it did. -/
def muxTurnedSpec : ChangeSpec := { name := "muxTurned", fn := fun _ => fun
  | [d1, d2, d3] => { results := [.lit (.bool true)], args := [d1, d2, d3] }
  | _ => none }
def muxTurnedRow : OpenClaim := { program := "ytndphnojmpeogaa", sum := "08e028ca6e6429322c1a120b251f778f5244ee97e440863fb931474979b9d9ca", func := "bowline/bowlinelaw30.MuxTurned", spec := "muxTurned", unfollowed := true, recurses := true, apart := false }
def MuxTurnedSaid : Prop := muxTurnedRow.holds Try.pinned (OpenSpec.ofChange muxTurnedSpec)

/-- ITS FALSE NEIGHBOUR: 'it returns false'. Refute it at one input. -/
def muxTurnedWrong : ChangeSpec := { name := "muxTurned", fn := fun _ => fun
  | [d1, d2, d3] => { results := [.lit (.bool false)], args := [d1, d2, d3] }
  | _ => none }
def MuxTurnedWrongFalsely : Prop := muxTurnedRow.holds Try.pinned (OpenSpec.ofChange muxTurnedWrong)

/-- 'bowlinelaw30.MuxBack': WHATEVER THE INPUT: true; the input reads as it did. -/
def muxBackSpec : ChangeSpec := { name := "muxBack", fn := fun _ => fun
  | [d1, d2] => { results := [.lit (.bool true)], args := [d1, d2] }
  | _ => none }
def muxBackRow : OpenClaim := { program := "ytndphnojmpeogaa", sum := "08e028ca6e6429322c1a120b251f778f5244ee97e440863fb931474979b9d9ca", func := "bowline/bowlinelaw30.MuxBack", spec := "muxBack", unfollowed := true, recurses := true, apart := false }
def MuxBackSaid : Prop := muxBackRow.holds Try.pinned (OpenSpec.ofChange muxBackSpec)

/-- ITS FALSE NEIGHBOUR: 'it returns false'. Refute it at one input. -/
def muxBackWrong : ChangeSpec := { name := "muxBack", fn := fun _ => fun
  | [d1, d2] => { results := [.lit (.bool false)], args := [d1, d2] }
  | _ => none }
def MuxBackWrongFalsely : Prop := muxBackRow.holds Try.pinned (OpenSpec.ofChange muxBackWrong)

/-- 'bowlinelaw30.MuxSizes': WHATEVER THE INPUT: true; the input reads as it did. -/
def muxSizesSpec : ChangeSpec := { name := "muxSizes", fn := fun _ => fun
  | [d1, d2] => { results := [.lit (.bool true)], args := [d1, d2] }
  | _ => none }
def muxSizesRow : OpenClaim := { program := "ytndphnojmpeogaa", sum := "08e028ca6e6429322c1a120b251f778f5244ee97e440863fb931474979b9d9ca", func := "bowline/bowlinelaw30.MuxSizes", spec := "muxSizes", unfollowed := true, recurses := true, apart := false }
def MuxSizesSaid : Prop := muxSizesRow.holds Try.pinned (OpenSpec.ofChange muxSizesSpec)

/-- ITS FALSE NEIGHBOUR: 'it returns false'. Refute it at one input. -/
def muxSizesWrong : ChangeSpec := { name := "muxSizes", fn := fun _ => fun
  | [d1, d2] => { results := [.lit (.bool false)], args := [d1, d2] }
  | _ => none }
def MuxSizesWrongFalsely : Prop := muxSizesRow.holds Try.pinned (OpenSpec.ofChange muxSizesWrong)

/-- 'bowlinelaw11.StatusReads': WHATEVER THE INPUT: true; the input reads as it did. -/
def statusReadsSpec : ChangeSpec := { name := "statusReads", fn := fun _ => fun
  | [d1, d2] => { results := [.lit (.bool true)], args := [d1, d2] }
  | _ => none }
def statusReadsRow : OpenClaim := { program := "ytndphnojmpeogaa", sum := "08e028ca6e6429322c1a120b251f778f5244ee97e440863fb931474979b9d9ca", func := "bowline/bowlinelaw11.StatusReads", spec := "statusReads", unfollowed := true, recurses := true, apart := false }
def StatusReadsSaid : Prop := statusReadsRow.holds Try.pinned (OpenSpec.ofChange statusReadsSpec)

/-- ITS FALSE NEIGHBOUR: 'it returns false'. Refute it at one input. -/
def statusReadsWrong : ChangeSpec := { name := "statusReads", fn := fun _ => fun
  | [d1, d2] => { results := [.lit (.bool false)], args := [d1, d2] }
  | _ => none }
def StatusReadsWrongFalsely : Prop := statusReadsRow.holds Try.pinned (OpenSpec.ofChange statusReadsWrong)

/-- 'bowlinelaw30.MuxWrites': WHATEVER THE INPUT: true; the input reads as it did. -/
def muxWritesSpec : ChangeSpec := { name := "muxWrites", fn := fun _ => fun
  | [d1, d2] => { results := [.lit (.bool true)], args := [d1, d2] }
  | _ => none }
def muxWritesRow : OpenClaim := { program := "ytndphnojmpeogaa", sum := "08e028ca6e6429322c1a120b251f778f5244ee97e440863fb931474979b9d9ca", func := "bowline/bowlinelaw30.MuxWrites", spec := "muxWrites", unfollowed := true, recurses := true, apart := false }
def MuxWritesSaid : Prop := muxWritesRow.holds Try.pinned (OpenSpec.ofChange muxWritesSpec)

/-- ITS FALSE NEIGHBOUR: 'it returns false'. Refute it at one input. -/
def muxWritesWrong : ChangeSpec := { name := "muxWrites", fn := fun _ => fun
  | [d1, d2] => { results := [.lit (.bool false)], args := [d1, d2] }
  | _ => none }
def MuxWritesWrongFalsely : Prop := muxWritesRow.holds Try.pinned (OpenSpec.ofChange muxWritesWrong)

/-- 'bowlinelaw11.StatusBack': WHATEVER THE INPUT: true; the input reads as it did. -/
def statusBackSpec : ChangeSpec := { name := "statusBack", fn := fun _ => fun
  | [d1, d2, d3] => { results := [.lit (.bool true)], args := [d1, d2, d3] }
  | _ => none }
def statusBackRow : OpenClaim := { program := "ytndphnojmpeogaa", sum := "08e028ca6e6429322c1a120b251f778f5244ee97e440863fb931474979b9d9ca", func := "bowline/bowlinelaw11.StatusBack", spec := "statusBack", unfollowed := true, recurses := true, apart := false }
def StatusBackSaid : Prop := statusBackRow.holds Try.pinned (OpenSpec.ofChange statusBackSpec)

/-- ITS FALSE NEIGHBOUR: 'it returns false'. Refute it at one input. -/
def statusBackWrong : ChangeSpec := { name := "statusBack", fn := fun _ => fun
  | [d1, d2, d3] => { results := [.lit (.bool false)], args := [d1, d2, d3] }
  | _ => none }
def StatusBackWrongFalsely : Prop := statusBackRow.holds Try.pinned (OpenSpec.ofChange statusBackWrong)

/-- 'bowlinelaw11.StatusGrows': WHATEVER THE INPUT: true; the input reads as it did. -/
def statusGrowsSpec : ChangeSpec := { name := "statusGrows", fn := fun _ => fun
  | [d1, d2, d3] => { results := [.lit (.bool true)], args := [d1, d2, d3] }
  | _ => none }
def statusGrowsRow : OpenClaim := { program := "ytndphnojmpeogaa", sum := "08e028ca6e6429322c1a120b251f778f5244ee97e440863fb931474979b9d9ca", func := "bowline/bowlinelaw11.StatusGrows", spec := "statusGrows", unfollowed := true, recurses := true, apart := false }
def StatusGrowsSaid : Prop := statusGrowsRow.holds Try.pinned (OpenSpec.ofChange statusGrowsSpec)

/-- ITS FALSE NEIGHBOUR: 'it returns false'. Refute it at one input. -/
def statusGrowsWrong : ChangeSpec := { name := "statusGrows", fn := fun _ => fun
  | [d1, d2, d3] => { results := [.lit (.bool false)], args := [d1, d2, d3] }
  | _ => none }
def StatusGrowsWrongFalsely : Prop := statusGrowsRow.holds Try.pinned (OpenSpec.ofChange statusGrowsWrong)

/-- 'bowlinelaw11.StatusWrites': WHATEVER THE INPUT: true; the input reads as it did. -/
def statusWritesSpec : ChangeSpec := { name := "statusWrites", fn := fun _ => fun
  | [d1, d2, d3] => { results := [.lit (.bool true)], args := [d1, d2, d3] }
  | _ => none }
def statusWritesRow : OpenClaim := { program := "ytndphnojmpeogaa", sum := "08e028ca6e6429322c1a120b251f778f5244ee97e440863fb931474979b9d9ca", func := "bowline/bowlinelaw11.StatusWrites", spec := "statusWrites", unfollowed := true, recurses := true, apart := false }
def StatusWritesSaid : Prop := statusWritesRow.holds Try.pinned (OpenSpec.ofChange statusWritesSpec)

/-- ITS FALSE NEIGHBOUR: 'it returns false'. Refute it at one input. -/
def statusWritesWrong : ChangeSpec := { name := "statusWrites", fn := fun _ => fun
  | [d1, d2, d3] => { results := [.lit (.bool false)], args := [d1, d2, d3] }
  | _ => none }
def StatusWritesWrongFalsely : Prop := statusWritesRow.holds Try.pinned (OpenSpec.ofChange statusWritesWrong)

/- THE SECOND FORM. 'bulk': how many values and letters a reading holds, each counted each time it is reached (what is shared counts as often as it is met; a slice's spare places count too). A statement '..UptoSaid' is the law's where the arguments, and the package variables that the reading takes, are together of bulk at most 1048576: NARROWER than '..Said'. Prove '..Said' where nothing that the law and all that it calls make is longer than what came in: it says more and counts as full. Else prove '..UptoSaid'. A law counts once. -/
mutual
def uptoBulk {H : Type} : DataW H → Nat
  | .lit (.string bytes) => bytes.length + 1
  | .lit _ => 1
  | .nil => 1
  | .ptr d => uptoBulk d + 1
  | .slice elems spare => uptoBulkAll elems + uptoBulkAll spare + 1
  | .agg parts => uptoBulkAll parts + 1
  | .iface _ d => uptoBulk d + 1
  | .map entries => uptoBulkEntries entries + 1
  | .held _ => 1
def uptoBulkAll {H : Type} : List (DataW H) → Nat
  | [] => 0
  | d :: r => uptoBulk d + uptoBulkAll r
def uptoBulkEntries {H : Type} : List (Lit × DataW H) → Nat
  | [] => 0
  | x :: r => uptoBulkEntry x + uptoBulkEntries r
def uptoBulkEntry {H : Type} : Lit × DataW H → Nat
  | (.string bytes, d) => bytes.length + uptoBulk d + 1
  | (_, d) => uptoBulk d + 1
 end
def uptoSmall : (H : Type) → List (DataW H) → Bool := fun _ ds => decide (uptoBulkAll ds ≤ 1048576)
def OpenSpec.upto (s : _root_.Go.ChangeSpec) : _root_.Go.OpenSpec := { _root_.Go.OpenSpec.ofChange s with cond := some uptoSmall }

/-- 'bowlinelaw30.MuxReads', WHERE WHAT IT READS IS OF BULK AT MOST 1048576: true; the input reads as it did. -/
def muxReadsUptoRow : OpenClaim := { program := "ytndphnojmpeogaa", sum := "08e028ca6e6429322c1a120b251f778f5244ee97e440863fb931474979b9d9ca", func := "bowline/bowlinelaw30.MuxReads", spec := "muxReads", unfollowed := true, recurses := true, apart := false, narrowed := true }
def MuxReadsUptoSaid : Prop := muxReadsUptoRow.holds Try.pinned (OpenSpec.upto muxReadsSpec)

/-- 'bowlinelaw30.MuxTurned', WHERE WHAT IT READS IS OF BULK AT MOST 1048576: true; the input reads as it did. -/
def muxTurnedUptoRow : OpenClaim := { program := "ytndphnojmpeogaa", sum := "08e028ca6e6429322c1a120b251f778f5244ee97e440863fb931474979b9d9ca", func := "bowline/bowlinelaw30.MuxTurned", spec := "muxTurned", unfollowed := true, recurses := true, apart := false, narrowed := true }
def MuxTurnedUptoSaid : Prop := muxTurnedUptoRow.holds Try.pinned (OpenSpec.upto muxTurnedSpec)

/-- 'bowlinelaw30.MuxBack', WHERE WHAT IT READS IS OF BULK AT MOST 1048576: true; the input reads as it did. -/
def muxBackUptoRow : OpenClaim := { program := "ytndphnojmpeogaa", sum := "08e028ca6e6429322c1a120b251f778f5244ee97e440863fb931474979b9d9ca", func := "bowline/bowlinelaw30.MuxBack", spec := "muxBack", unfollowed := true, recurses := true, apart := false, narrowed := true }
def MuxBackUptoSaid : Prop := muxBackUptoRow.holds Try.pinned (OpenSpec.upto muxBackSpec)

/-- 'bowlinelaw30.MuxSizes', WHERE WHAT IT READS IS OF BULK AT MOST 1048576: true; the input reads as it did. -/
def muxSizesUptoRow : OpenClaim := { program := "ytndphnojmpeogaa", sum := "08e028ca6e6429322c1a120b251f778f5244ee97e440863fb931474979b9d9ca", func := "bowline/bowlinelaw30.MuxSizes", spec := "muxSizes", unfollowed := true, recurses := true, apart := false, narrowed := true }
def MuxSizesUptoSaid : Prop := muxSizesUptoRow.holds Try.pinned (OpenSpec.upto muxSizesSpec)

/-- 'bowlinelaw11.StatusReads', WHERE WHAT IT READS IS OF BULK AT MOST 1048576: true; the input reads as it did. -/
def statusReadsUptoRow : OpenClaim := { program := "ytndphnojmpeogaa", sum := "08e028ca6e6429322c1a120b251f778f5244ee97e440863fb931474979b9d9ca", func := "bowline/bowlinelaw11.StatusReads", spec := "statusReads", unfollowed := true, recurses := true, apart := false, narrowed := true }
def StatusReadsUptoSaid : Prop := statusReadsUptoRow.holds Try.pinned (OpenSpec.upto statusReadsSpec)

/-- 'bowlinelaw30.MuxWrites', WHERE WHAT IT READS IS OF BULK AT MOST 1048576: true; the input reads as it did. -/
def muxWritesUptoRow : OpenClaim := { program := "ytndphnojmpeogaa", sum := "08e028ca6e6429322c1a120b251f778f5244ee97e440863fb931474979b9d9ca", func := "bowline/bowlinelaw30.MuxWrites", spec := "muxWrites", unfollowed := true, recurses := true, apart := false, narrowed := true }
def MuxWritesUptoSaid : Prop := muxWritesUptoRow.holds Try.pinned (OpenSpec.upto muxWritesSpec)

/-- 'bowlinelaw11.StatusBack', WHERE WHAT IT READS IS OF BULK AT MOST 1048576: true; the input reads as it did. -/
def statusBackUptoRow : OpenClaim := { program := "ytndphnojmpeogaa", sum := "08e028ca6e6429322c1a120b251f778f5244ee97e440863fb931474979b9d9ca", func := "bowline/bowlinelaw11.StatusBack", spec := "statusBack", unfollowed := true, recurses := true, apart := false, narrowed := true }
def StatusBackUptoSaid : Prop := statusBackUptoRow.holds Try.pinned (OpenSpec.upto statusBackSpec)

/-- 'bowlinelaw11.StatusGrows', WHERE WHAT IT READS IS OF BULK AT MOST 1048576: true; the input reads as it did. -/
def statusGrowsUptoRow : OpenClaim := { program := "ytndphnojmpeogaa", sum := "08e028ca6e6429322c1a120b251f778f5244ee97e440863fb931474979b9d9ca", func := "bowline/bowlinelaw11.StatusGrows", spec := "statusGrows", unfollowed := true, recurses := true, apart := false, narrowed := true }
def StatusGrowsUptoSaid : Prop := statusGrowsUptoRow.holds Try.pinned (OpenSpec.upto statusGrowsSpec)

/-- 'bowlinelaw11.StatusWrites', WHERE WHAT IT READS IS OF BULK AT MOST 1048576: true; the input reads as it did. -/
def statusWritesUptoRow : OpenClaim := { program := "ytndphnojmpeogaa", sum := "08e028ca6e6429322c1a120b251f778f5244ee97e440863fb931474979b9d9ca", func := "bowline/bowlinelaw11.StatusWrites", spec := "statusWrites", unfollowed := true, recurses := true, apart := false, narrowed := true }
def StatusWritesUptoSaid : Prop := statusWritesUptoRow.holds Try.pinned (OpenSpec.upto statusWritesSpec)

end Rows
end Go.Proofs.Ytndphnojmpeogaa
