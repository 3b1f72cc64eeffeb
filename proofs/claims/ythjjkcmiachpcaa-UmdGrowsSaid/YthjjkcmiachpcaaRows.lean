/-
  No cell of these rows narrows 'for every input' (looked for: loops, veiled, ifaces, maps, wideKeys, modest, calm, conditions, laid).
  DERIVED. THE GIVEN ROWS OF THIS SEAT. 4 by the template 'for every input the law returns true; each argument reads behind the call as it read before'; 0 by the template 'total and deterministic' (their statements: YthjjkcmiachpcaaTotals.lean).
  GIVEN WITH THE SEED: the statements are not yours to turn. If you find one false, say at which input.
  Laid BY PROGRAM, IN A SANDBOX (cutbox-rows.mjs): the forced cells as the released guide's own fill.sh prints them over the translation f4e5e6f637fbf9e4… (all of the seat's roots in one cut). By AI agents, Wed Nov 11 2026. No macro, syntax, notation, axiom, sorry.
-/
import Derived.Test.YthjjkcmiachpcaaChecked
import GoSem.Claim
import GoSem.ClaimJoined
import GoSem.ClaimMapViews
import Derived.JoinedTies
import Derived.KernelRfl
namespace Go.Proofs.Ythjjkcmiachpcaa
/- THE CELL 'sum', in the pinned program and in every row, IS THE sha256 OF THE DUMP (.gsa) THAT YthjjkcmiachpcaaProg.lean LOADS. Nothing in Lean hashes anything: it is a label: what it is worth is what the hold of that sum in a sandbox is worth. -/
noncomputable def Try.pinned : Pinned := { name := "ythjjkcmiachpcaa", sum := "f4e5e6f637fbf9e44f9541213af77f01266626feb4b5df492bccea048378eee0", checked := Try.checked }
namespace Rows
def none {H : Type} : Left H := { results := [], args := [] }

/-- 'bowlinelaw09.UmdReads': WHATEVER THE INPUT: true; the input reads as it did. -/
def umdReadsSpec : ChangeSpec := { name := "umdReads", fn := fun _ => fun
  | [d1, d2] => { results := [.lit (.bool true)], args := [d1, d2] }
  | _ => none }
def umdReadsRow : OpenClaim := { program := "ythjjkcmiachpcaa", sum := "f4e5e6f637fbf9e44f9541213af77f01266626feb4b5df492bccea048378eee0", func := "bowline/bowlinelaw09.UmdReads", spec := "umdReads", inPlace := ["internal/bytealg.MakeNoZero"], apart := false }
def UmdReadsSaid : Prop := umdReadsRow.holds Try.pinned (OpenSpec.ofChange umdReadsSpec)

/-- ITS FALSE NEIGHBOUR: 'it returns false'. Refute it at one input. -/
def umdReadsWrong : ChangeSpec := { name := "umdReads", fn := fun _ => fun
  | [d1, d2] => { results := [.lit (.bool false)], args := [d1, d2] }
  | _ => none }
def UmdReadsWrongFalsely : Prop := umdReadsRow.holds Try.pinned (OpenSpec.ofChange umdReadsWrong)

/-- 'bowlinelaw09.UmdBack': WHATEVER THE INPUT: true; the input reads as it did. -/
def umdBackSpec : ChangeSpec := { name := "umdBack", fn := fun _ => fun
  | [d1, d2, d3] => { results := [.lit (.bool true)], args := [d1, d2, d3] }
  | _ => none }
def umdBackRow : OpenClaim := { program := "ythjjkcmiachpcaa", sum := "f4e5e6f637fbf9e44f9541213af77f01266626feb4b5df492bccea048378eee0", func := "bowline/bowlinelaw09.UmdBack", spec := "umdBack", inPlace := ["internal/bytealg.MakeNoZero"], apart := false }
def UmdBackSaid : Prop := umdBackRow.holds Try.pinned (OpenSpec.ofChange umdBackSpec)

/-- ITS FALSE NEIGHBOUR: 'it returns false'. Refute it at one input. -/
def umdBackWrong : ChangeSpec := { name := "umdBack", fn := fun _ => fun
  | [d1, d2, d3] => { results := [.lit (.bool false)], args := [d1, d2, d3] }
  | _ => none }
def UmdBackWrongFalsely : Prop := umdBackRow.holds Try.pinned (OpenSpec.ofChange umdBackWrong)

/-- 'bowlinelaw09.UmdGrows': WHATEVER THE INPUT: true; the input reads as it did. -/
def umdGrowsSpec : ChangeSpec := { name := "umdGrows", fn := fun _ => fun
  | [d1, d2] => { results := [.lit (.bool true)], args := [d1, d2] }
  | _ => none }
def umdGrowsRow : OpenClaim := { program := "ythjjkcmiachpcaa", sum := "f4e5e6f637fbf9e44f9541213af77f01266626feb4b5df492bccea048378eee0", func := "bowline/bowlinelaw09.UmdGrows", spec := "umdGrows", inPlace := ["internal/bytealg.MakeNoZero"], apart := false }
def UmdGrowsSaid : Prop := umdGrowsRow.holds Try.pinned (OpenSpec.ofChange umdGrowsSpec)

/-- ITS FALSE NEIGHBOUR: 'it returns false'. Refute it at one input. -/
def umdGrowsWrong : ChangeSpec := { name := "umdGrows", fn := fun _ => fun
  | [d1, d2] => { results := [.lit (.bool false)], args := [d1, d2] }
  | _ => none }
def UmdGrowsWrongFalsely : Prop := umdGrowsRow.holds Try.pinned (OpenSpec.ofChange umdGrowsWrong)

/-- 'bowlinelaw09.UmdWrites': WHATEVER THE INPUT: true; the input reads as it did. -/
def umdWritesSpec : ChangeSpec := { name := "umdWrites", fn := fun _ => fun
  | [d1, d2, d3] => { results := [.lit (.bool true)], args := [d1, d2, d3] }
  | _ => none }
def umdWritesRow : OpenClaim := { program := "ythjjkcmiachpcaa", sum := "f4e5e6f637fbf9e44f9541213af77f01266626feb4b5df492bccea048378eee0", func := "bowline/bowlinelaw09.UmdWrites", spec := "umdWrites", inPlace := ["internal/bytealg.MakeNoZero"], unfollowed := true, recurses := true, apart := false }
def UmdWritesSaid : Prop := umdWritesRow.holds Try.pinned (OpenSpec.ofChange umdWritesSpec)

/-- ITS FALSE NEIGHBOUR: 'it returns false'. Refute it at one input. -/
def umdWritesWrong : ChangeSpec := { name := "umdWrites", fn := fun _ => fun
  | [d1, d2, d3] => { results := [.lit (.bool false)], args := [d1, d2, d3] }
  | _ => none }
def UmdWritesWrongFalsely : Prop := umdWritesRow.holds Try.pinned (OpenSpec.ofChange umdWritesWrong)

/- THE SECOND FORM. 'bulk': how many values and letters a reading holds, each counted each time it is reached (what is shared counts as often as it is met; a slice's spare places count too). A statement '..UptoSaid' is the law's where the arguments, and the package variables that the reading takes, are together of bulk at most 1048576: NARROWER than '..Said'. Prove '..Said' where nothing that the law and all that it calls make is longer than what came in: it says more and counts as full. Else prove '..UptoSaid'. A law counts once. -/
mutual
def uptoBulk {H : Type} : DataW H → Nat
  | .lit (.string bytes) => bytes.length + 1
  | .lit _ => 1
  | .nil => 1
  | .ptr d => uptoBulk d + 1
  | .slice elems spare => uptoBulkAll elems + uptoBulkAll spare + 1
  | .agg parts => uptoBulkAll parts + 1
  | .iface _ d => uptoBulk d + 1
  | .map entries => uptoBulkEntries entries + 1
  | .held _ => 1
def uptoBulkAll {H : Type} : List (DataW H) → Nat
  | [] => 0
  | d :: r => uptoBulk d + uptoBulkAll r
def uptoBulkEntries {H : Type} : List (Lit × DataW H) → Nat
  | [] => 0
  | x :: r => uptoBulkEntry x + uptoBulkEntries r
def uptoBulkEntry {H : Type} : Lit × DataW H → Nat
  | (.string bytes, d) => bytes.length + uptoBulk d + 1
  | (_, d) => uptoBulk d + 1
 end
def uptoSmall : (H : Type) → List (DataW H) → Bool := fun _ ds => decide (uptoBulkAll ds ≤ 1048576)
def OpenSpec.upto (s : _root_.Go.ChangeSpec) : _root_.Go.OpenSpec := { _root_.Go.OpenSpec.ofChange s with cond := some uptoSmall }

/-- 'bowlinelaw09.UmdReads', WHERE WHAT IT READS IS OF BULK AT MOST 1048576: true; the input reads as it did. -/
def umdReadsUptoRow : OpenClaim := { program := "ythjjkcmiachpcaa", sum := "f4e5e6f637fbf9e44f9541213af77f01266626feb4b5df492bccea048378eee0", func := "bowline/bowlinelaw09.UmdReads", spec := "umdReads", inPlace := ["internal/bytealg.MakeNoZero"], apart := false, narrowed := true }
def UmdReadsUptoSaid : Prop := umdReadsUptoRow.holds Try.pinned (OpenSpec.upto umdReadsSpec)

/-- 'bowlinelaw09.UmdBack', WHERE WHAT IT READS IS OF BULK AT MOST 1048576: true; the input reads as it did. -/
def umdBackUptoRow : OpenClaim := { program := "ythjjkcmiachpcaa", sum := "f4e5e6f637fbf9e44f9541213af77f01266626feb4b5df492bccea048378eee0", func := "bowline/bowlinelaw09.UmdBack", spec := "umdBack", inPlace := ["internal/bytealg.MakeNoZero"], apart := false, narrowed := true }
def UmdBackUptoSaid : Prop := umdBackUptoRow.holds Try.pinned (OpenSpec.upto umdBackSpec)

/-- 'bowlinelaw09.UmdGrows', WHERE WHAT IT READS IS OF BULK AT MOST 1048576: true; the input reads as it did. -/
def umdGrowsUptoRow : OpenClaim := { program := "ythjjkcmiachpcaa", sum := "f4e5e6f637fbf9e44f9541213af77f01266626feb4b5df492bccea048378eee0", func := "bowline/bowlinelaw09.UmdGrows", spec := "umdGrows", inPlace := ["internal/bytealg.MakeNoZero"], apart := false, narrowed := true }
def UmdGrowsUptoSaid : Prop := umdGrowsUptoRow.holds Try.pinned (OpenSpec.upto umdGrowsSpec)

/-- 'bowlinelaw09.UmdWrites', WHERE WHAT IT READS IS OF BULK AT MOST 1048576: true; the input reads as it did. -/
def umdWritesUptoRow : OpenClaim := { program := "ythjjkcmiachpcaa", sum := "f4e5e6f637fbf9e44f9541213af77f01266626feb4b5df492bccea048378eee0", func := "bowline/bowlinelaw09.UmdWrites", spec := "umdWrites", inPlace := ["internal/bytealg.MakeNoZero"], unfollowed := true, recurses := true, apart := false, narrowed := true }
def UmdWritesUptoSaid : Prop := umdWritesUptoRow.holds Try.pinned (OpenSpec.upto umdWritesSpec)

end Rows
end Go.Proofs.Ythjjkcmiachpcaa
