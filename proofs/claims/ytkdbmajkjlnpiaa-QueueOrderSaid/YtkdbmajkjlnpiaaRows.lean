/-
  No cell of these rows narrows 'for every input' (looked for: loops, veiled, ifaces, maps, wideKeys, modest, calm, conditions, laid).
  DERIVED. THE GIVEN ROWS OF THIS SEAT. 12 by the template 'for every input the law returns true; each argument reads behind the call as it read before'; 0 by the template 'total and deterministic' (their statements: YtkdbmajkjlnpiaaTotals.lean).
  GIVEN WITH THE SEED: the statements are not yours to turn. If you find one false, say at which input.
  Laid BY PROGRAM, IN A SANDBOX (cutbox-rows.mjs): the forced cells as the released guide's own fill.sh prints them over the translation ae0cb0e82bd2a28f… (all of the seat's roots in one cut). By AI agents, Wed Nov 11 2026. No macro, syntax, notation, axiom, sorry.
-/
import Derived.Test.YtkdbmajkjlnpiaaChecked
import GoSem.Claim
import GoSem.ClaimJoined
import GoSem.ClaimMapViews
import Derived.JoinedTies
import Derived.KernelRfl
namespace Go.Proofs.Ytkdbmajkjlnpiaa
/- THE CELL 'sum', in the pinned program and in every row, IS THE sha256 OF THE DUMP (.gsa) THAT YtkdbmajkjlnpiaaProg.lean LOADS. Nothing in Lean hashes anything: it is a label: what it is worth is what the hold of that sum in a sandbox is worth. -/
noncomputable def Try.pinned : Pinned := { name := "ytkdbmajkjlnpiaa", sum := "ae0cb0e82bd2a28f1e4d40629eee4ec5f6ed5d09372d43e744e1ca056a651d6b", checked := Try.checked }
namespace Rows
def none {H : Type} : Left H := { results := [], args := [] }

/-- 'bowlinelaw01.BitsPuts': WHATEVER THE INPUT: true; the input reads as it did. -/
def bitsPutsSpec : ChangeSpec := { name := "bitsPuts", fn := fun _ => fun
  | [d] => { results := [.lit (.bool true)], args := [d] }
  | _ => none }
def bitsPutsRow : OpenClaim := { program := "ytkdbmajkjlnpiaa", sum := "ae0cb0e82bd2a28f1e4d40629eee4ec5f6ed5d09372d43e744e1ca056a651d6b", func := "bowline/bowlinelaw01.BitsPuts", spec := "bitsPuts", apart := false }
def BitsPutsSaid : Prop := bitsPutsRow.holds Try.pinned (OpenSpec.ofChange bitsPutsSpec)

/-- ITS FALSE NEIGHBOUR: 'it returns false'. Refute it at one input. -/
def bitsPutsWrong : ChangeSpec := { name := "bitsPuts", fn := fun _ => fun
  | [d] => { results := [.lit (.bool false)], args := [d] }
  | _ => none }
def BitsPutsWrongFalsely : Prop := bitsPutsRow.holds Try.pinned (OpenSpec.ofChange bitsPutsWrong)

/-- 'bowlinelaw01.BitsParts': WHATEVER THE INPUT: true; the input reads as it did. -/
def bitsPartsSpec : ChangeSpec := { name := "bitsParts", fn := fun _ => fun
  | [d1, d2, d3, d4] => { results := [.lit (.bool true)], args := [d1, d2, d3, d4] }
  | _ => none }
def bitsPartsRow : OpenClaim := { program := "ytkdbmajkjlnpiaa", sum := "ae0cb0e82bd2a28f1e4d40629eee4ec5f6ed5d09372d43e744e1ca056a651d6b", func := "bowline/bowlinelaw01.BitsParts", spec := "bitsParts", apart := false }
def BitsPartsSaid : Prop := bitsPartsRow.holds Try.pinned (OpenSpec.ofChange bitsPartsSpec)

/-- ITS FALSE NEIGHBOUR: 'it returns false'. Refute it at one input. -/
def bitsPartsWrong : ChangeSpec := { name := "bitsParts", fn := fun _ => fun
  | [d1, d2, d3, d4] => { results := [.lit (.bool false)], args := [d1, d2, d3, d4] }
  | _ => none }
def BitsPartsWrongFalsely : Prop := bitsPartsRow.holds Try.pinned (OpenSpec.ofChange bitsPartsWrong)

/-- 'bowlinelaw01.BitsSizes': WHATEVER THE INPUT: true; the input reads as it did. -/
def bitsSizesSpec : ChangeSpec := { name := "bitsSizes", fn := fun _ => fun
  | [d1, d2] => { results := [.lit (.bool true)], args := [d1, d2] }
  | _ => none }
def bitsSizesRow : OpenClaim := { program := "ytkdbmajkjlnpiaa", sum := "ae0cb0e82bd2a28f1e4d40629eee4ec5f6ed5d09372d43e744e1ca056a651d6b", func := "bowline/bowlinelaw01.BitsSizes", spec := "bitsSizes", apart := false }
def BitsSizesSaid : Prop := bitsSizesRow.holds Try.pinned (OpenSpec.ofChange bitsSizesSpec)

/-- ITS FALSE NEIGHBOUR: 'it returns false'. Refute it at one input. -/
def bitsSizesWrong : ChangeSpec := { name := "bitsSizes", fn := fun _ => fun
  | [d1, d2] => { results := [.lit (.bool false)], args := [d1, d2] }
  | _ => none }
def BitsSizesWrongFalsely : Prop := bitsSizesRow.holds Try.pinned (OpenSpec.ofChange bitsSizesWrong)

/-- 'bowlinelaw14.GluePlain': WHATEVER THE INPUT: true; the input reads as it did. -/
def gluePlainSpec : ChangeSpec := { name := "gluePlain", fn := fun _ => fun
  | [d1, d2] => { results := [.lit (.bool true)], args := [d1, d2] }
  | _ => none }
def gluePlainRow : OpenClaim := { program := "ytkdbmajkjlnpiaa", sum := "ae0cb0e82bd2a28f1e4d40629eee4ec5f6ed5d09372d43e744e1ca056a651d6b", func := "bowline/bowlinelaw14.GluePlain", spec := "gluePlain", unfollowed := true, recurses := true, apart := false }
def GluePlainSaid : Prop := gluePlainRow.holds Try.pinned (OpenSpec.ofChange gluePlainSpec)

/-- ITS FALSE NEIGHBOUR: 'it returns false'. Refute it at one input. -/
def gluePlainWrong : ChangeSpec := { name := "gluePlain", fn := fun _ => fun
  | [d1, d2] => { results := [.lit (.bool false)], args := [d1, d2] }
  | _ => none }
def GluePlainWrongFalsely : Prop := gluePlainRow.holds Try.pinned (OpenSpec.ofChange gluePlainWrong)

/-- 'bowlinelaw01.BitsGets': WHATEVER THE INPUT: true; the input reads as it did. -/
def bitsGetsSpec : ChangeSpec := { name := "bitsGets", fn := fun _ => fun
  | [d1, d2] => { results := [.lit (.bool true)], args := [d1, d2] }
  | _ => none }
def bitsGetsRow : OpenClaim := { program := "ytkdbmajkjlnpiaa", sum := "ae0cb0e82bd2a28f1e4d40629eee4ec5f6ed5d09372d43e744e1ca056a651d6b", func := "bowline/bowlinelaw01.BitsGets", spec := "bitsGets", apart := false }
def BitsGetsSaid : Prop := bitsGetsRow.holds Try.pinned (OpenSpec.ofChange bitsGetsSpec)

/-- ITS FALSE NEIGHBOUR: 'it returns false'. Refute it at one input. -/
def bitsGetsWrong : ChangeSpec := { name := "bitsGets", fn := fun _ => fun
  | [d1, d2] => { results := [.lit (.bool false)], args := [d1, d2] }
  | _ => none }
def BitsGetsWrongFalsely : Prop := bitsGetsRow.holds Try.pinned (OpenSpec.ofChange bitsGetsWrong)

/-- 'bowlinelaw01.BitsBack': WHATEVER THE INPUT: true; the input reads as it did. -/
def bitsBackSpec : ChangeSpec := { name := "bitsBack", fn := fun _ => fun
  | [d] => { results := [.lit (.bool true)], args := [d] }
  | _ => none }
def bitsBackRow : OpenClaim := { program := "ytkdbmajkjlnpiaa", sum := "ae0cb0e82bd2a28f1e4d40629eee4ec5f6ed5d09372d43e744e1ca056a651d6b", func := "bowline/bowlinelaw01.BitsBack", spec := "bitsBack", apart := false }
def BitsBackSaid : Prop := bitsBackRow.holds Try.pinned (OpenSpec.ofChange bitsBackSpec)

/-- ITS FALSE NEIGHBOUR: 'it returns false'. Refute it at one input. -/
def bitsBackWrong : ChangeSpec := { name := "bitsBack", fn := fun _ => fun
  | [d] => { results := [.lit (.bool false)], args := [d] }
  | _ => none }
def BitsBackWrongFalsely : Prop := bitsBackRow.holds Try.pinned (OpenSpec.ofChange bitsBackWrong)

/-- 'bowlinelaw03.SpansOrdered': WHATEVER THE INPUT: true; the input reads as it did. -/
def spansOrderedSpec : ChangeSpec := { name := "spansOrdered", fn := fun _ => fun
  | [d] => { results := [.lit (.bool true)], args := [d] }
  | _ => none }
def spansOrderedRow : OpenClaim := { program := "ytkdbmajkjlnpiaa", sum := "ae0cb0e82bd2a28f1e4d40629eee4ec5f6ed5d09372d43e744e1ca056a651d6b", func := "bowline/bowlinelaw03.SpansOrdered", spec := "spansOrdered", unfollowed := true, recurses := true, apart := false }
def SpansOrderedSaid : Prop := spansOrderedRow.holds Try.pinned (OpenSpec.ofChange spansOrderedSpec)

/-- ITS FALSE NEIGHBOUR: 'it returns false'. Refute it at one input. -/
def spansOrderedWrong : ChangeSpec := { name := "spansOrdered", fn := fun _ => fun
  | [d] => { results := [.lit (.bool false)], args := [d] }
  | _ => none }
def SpansOrderedWrongFalsely : Prop := spansOrderedRow.holds Try.pinned (OpenSpec.ofChange spansOrderedWrong)

/-- 'bowlinelaw04.QueueFronts': WHATEVER THE INPUT: true; the input reads as it did. -/
def queueFrontsSpec : ChangeSpec := { name := "queueFronts", fn := fun _ => fun
  | [d1, d2, d3] => { results := [.lit (.bool true)], args := [d1, d2, d3] }
  | _ => none }
def queueFrontsRow : OpenClaim := { program := "ytkdbmajkjlnpiaa", sum := "ae0cb0e82bd2a28f1e4d40629eee4ec5f6ed5d09372d43e744e1ca056a651d6b", func := "bowline/bowlinelaw04.QueueFronts", spec := "queueFronts", apart := false }
def QueueFrontsSaid : Prop := queueFrontsRow.holds Try.pinned (OpenSpec.ofChange queueFrontsSpec)

/-- ITS FALSE NEIGHBOUR: 'it returns false'. Refute it at one input. -/
def queueFrontsWrong : ChangeSpec := { name := "queueFronts", fn := fun _ => fun
  | [d1, d2, d3] => { results := [.lit (.bool false)], args := [d1, d2, d3] }
  | _ => none }
def QueueFrontsWrongFalsely : Prop := queueFrontsRow.holds Try.pinned (OpenSpec.ofChange queueFrontsWrong)

/-- 'bowlinelaw03.SpansAdds': WHATEVER THE INPUT: true; the input reads as it did. -/
def spansAddsSpec : ChangeSpec := { name := "spansAdds", fn := fun _ => fun
  | [d1, d2, d3] => { results := [.lit (.bool true)], args := [d1, d2, d3] }
  | _ => none }
def spansAddsRow : OpenClaim := { program := "ytkdbmajkjlnpiaa", sum := "ae0cb0e82bd2a28f1e4d40629eee4ec5f6ed5d09372d43e744e1ca056a651d6b", func := "bowline/bowlinelaw03.SpansAdds", spec := "spansAdds", unfollowed := true, recurses := true, apart := false }
def SpansAddsSaid : Prop := spansAddsRow.holds Try.pinned (OpenSpec.ofChange spansAddsSpec)

/-- ITS FALSE NEIGHBOUR: 'it returns false'. Refute it at one input. -/
def spansAddsWrong : ChangeSpec := { name := "spansAdds", fn := fun _ => fun
  | [d1, d2, d3] => { results := [.lit (.bool false)], args := [d1, d2, d3] }
  | _ => none }
def SpansAddsWrongFalsely : Prop := spansAddsRow.holds Try.pinned (OpenSpec.ofChange spansAddsWrong)

/-- 'bowlinelaw04.QueueOrder': WHATEVER THE INPUT: true; the input reads as it did. -/
def queueOrderSpec : ChangeSpec := { name := "queueOrder", fn := fun _ => fun
  | [d1, d2] => { results := [.lit (.bool true)], args := [d1, d2] }
  | _ => none }
def queueOrderRow : OpenClaim := { program := "ytkdbmajkjlnpiaa", sum := "ae0cb0e82bd2a28f1e4d40629eee4ec5f6ed5d09372d43e744e1ca056a651d6b", func := "bowline/bowlinelaw04.QueueOrder", spec := "queueOrder", apart := false }
def QueueOrderSaid : Prop := queueOrderRow.holds Try.pinned (OpenSpec.ofChange queueOrderSpec)

/-- ITS FALSE NEIGHBOUR: 'it returns false'. Refute it at one input. -/
def queueOrderWrong : ChangeSpec := { name := "queueOrder", fn := fun _ => fun
  | [d1, d2] => { results := [.lit (.bool false)], args := [d1, d2] }
  | _ => none }
def QueueOrderWrongFalsely : Prop := queueOrderRow.holds Try.pinned (OpenSpec.ofChange queueOrderWrong)

/-- 'bowlinelaw04.QueueRoom': WHATEVER THE INPUT: true; the input reads as it did. -/
def queueRoomSpec : ChangeSpec := { name := "queueRoom", fn := fun _ => fun
  | [d1, d2, d3] => { results := [.lit (.bool true)], args := [d1, d2, d3] }
  | _ => none }
def queueRoomRow : OpenClaim := { program := "ytkdbmajkjlnpiaa", sum := "ae0cb0e82bd2a28f1e4d40629eee4ec5f6ed5d09372d43e744e1ca056a651d6b", func := "bowline/bowlinelaw04.QueueRoom", spec := "queueRoom", apart := false }
def QueueRoomSaid : Prop := queueRoomRow.holds Try.pinned (OpenSpec.ofChange queueRoomSpec)

/-- ITS FALSE NEIGHBOUR: 'it returns false'. Refute it at one input. -/
def queueRoomWrong : ChangeSpec := { name := "queueRoom", fn := fun _ => fun
  | [d1, d2, d3] => { results := [.lit (.bool false)], args := [d1, d2, d3] }
  | _ => none }
def QueueRoomWrongFalsely : Prop := queueRoomRow.holds Try.pinned (OpenSpec.ofChange queueRoomWrong)

/-- 'bowlinelaw04.QueueLives': WHATEVER THE INPUT: true; the input reads as it did. -/
def queueLivesSpec : ChangeSpec := { name := "queueLives", fn := fun _ => fun
  | [d1, d2] => { results := [.lit (.bool true)], args := [d1, d2] }
  | _ => none }
def queueLivesRow : OpenClaim := { program := "ytkdbmajkjlnpiaa", sum := "ae0cb0e82bd2a28f1e4d40629eee4ec5f6ed5d09372d43e744e1ca056a651d6b", func := "bowline/bowlinelaw04.QueueLives", spec := "queueLives", apart := false }
def QueueLivesSaid : Prop := queueLivesRow.holds Try.pinned (OpenSpec.ofChange queueLivesSpec)

/-- ITS FALSE NEIGHBOUR: 'it returns false'. Refute it at one input. -/
def queueLivesWrong : ChangeSpec := { name := "queueLives", fn := fun _ => fun
  | [d1, d2] => { results := [.lit (.bool false)], args := [d1, d2] }
  | _ => none }
def QueueLivesWrongFalsely : Prop := queueLivesRow.holds Try.pinned (OpenSpec.ofChange queueLivesWrong)

/- THE SECOND FORM. 'bulk': how many values and letters a reading holds, each counted each time it is reached (what is shared counts as often as it is met; a slice's spare places count too). A statement '..UptoSaid' is the law's where the arguments, and the package variables that the reading takes, are together of bulk at most 1048576: NARROWER than '..Said'. Prove '..Said' where nothing that the law and all that it calls make is longer than what came in: it says more and counts as full. Else prove '..UptoSaid'. A law counts once. -/
mutual
def uptoBulk {H : Type} : DataW H → Nat
  | .lit (.string bytes) => bytes.length + 1
  | .lit _ => 1
  | .nil => 1
  | .ptr d => uptoBulk d + 1
  | .slice elems spare => uptoBulkAll elems + uptoBulkAll spare + 1
  | .agg parts => uptoBulkAll parts + 1
  | .iface _ d => uptoBulk d + 1
  | .map entries => uptoBulkEntries entries + 1
  | .held _ => 1
def uptoBulkAll {H : Type} : List (DataW H) → Nat
  | [] => 0
  | d :: r => uptoBulk d + uptoBulkAll r
def uptoBulkEntries {H : Type} : List (Lit × DataW H) → Nat
  | [] => 0
  | x :: r => uptoBulkEntry x + uptoBulkEntries r
def uptoBulkEntry {H : Type} : Lit × DataW H → Nat
  | (.string bytes, d) => bytes.length + uptoBulk d + 1
  | (_, d) => uptoBulk d + 1
 end
def uptoSmall : (H : Type) → List (DataW H) → Bool := fun _ ds => decide (uptoBulkAll ds ≤ 1048576)
def OpenSpec.upto (s : _root_.Go.ChangeSpec) : _root_.Go.OpenSpec := { _root_.Go.OpenSpec.ofChange s with cond := some uptoSmall }

/-- 'bowlinelaw01.BitsPuts', WHERE WHAT IT READS IS OF BULK AT MOST 1048576: true; the input reads as it did. -/
def bitsPutsUptoRow : OpenClaim := { program := "ytkdbmajkjlnpiaa", sum := "ae0cb0e82bd2a28f1e4d40629eee4ec5f6ed5d09372d43e744e1ca056a651d6b", func := "bowline/bowlinelaw01.BitsPuts", spec := "bitsPuts", apart := false, narrowed := true }
def BitsPutsUptoSaid : Prop := bitsPutsUptoRow.holds Try.pinned (OpenSpec.upto bitsPutsSpec)

/-- 'bowlinelaw01.BitsParts', WHERE WHAT IT READS IS OF BULK AT MOST 1048576: true; the input reads as it did. -/
def bitsPartsUptoRow : OpenClaim := { program := "ytkdbmajkjlnpiaa", sum := "ae0cb0e82bd2a28f1e4d40629eee4ec5f6ed5d09372d43e744e1ca056a651d6b", func := "bowline/bowlinelaw01.BitsParts", spec := "bitsParts", apart := false, narrowed := true }
def BitsPartsUptoSaid : Prop := bitsPartsUptoRow.holds Try.pinned (OpenSpec.upto bitsPartsSpec)

/-- 'bowlinelaw01.BitsSizes', WHERE WHAT IT READS IS OF BULK AT MOST 1048576: true; the input reads as it did. -/
def bitsSizesUptoRow : OpenClaim := { program := "ytkdbmajkjlnpiaa", sum := "ae0cb0e82bd2a28f1e4d40629eee4ec5f6ed5d09372d43e744e1ca056a651d6b", func := "bowline/bowlinelaw01.BitsSizes", spec := "bitsSizes", apart := false, narrowed := true }
def BitsSizesUptoSaid : Prop := bitsSizesUptoRow.holds Try.pinned (OpenSpec.upto bitsSizesSpec)

/-- 'bowlinelaw14.GluePlain', WHERE WHAT IT READS IS OF BULK AT MOST 1048576: true; the input reads as it did. -/
def gluePlainUptoRow : OpenClaim := { program := "ytkdbmajkjlnpiaa", sum := "ae0cb0e82bd2a28f1e4d40629eee4ec5f6ed5d09372d43e744e1ca056a651d6b", func := "bowline/bowlinelaw14.GluePlain", spec := "gluePlain", unfollowed := true, recurses := true, apart := false, narrowed := true }
def GluePlainUptoSaid : Prop := gluePlainUptoRow.holds Try.pinned (OpenSpec.upto gluePlainSpec)

/-- 'bowlinelaw01.BitsGets', WHERE WHAT IT READS IS OF BULK AT MOST 1048576: true; the input reads as it did. -/
def bitsGetsUptoRow : OpenClaim := { program := "ytkdbmajkjlnpiaa", sum := "ae0cb0e82bd2a28f1e4d40629eee4ec5f6ed5d09372d43e744e1ca056a651d6b", func := "bowline/bowlinelaw01.BitsGets", spec := "bitsGets", apart := false, narrowed := true }
def BitsGetsUptoSaid : Prop := bitsGetsUptoRow.holds Try.pinned (OpenSpec.upto bitsGetsSpec)

/-- 'bowlinelaw01.BitsBack', WHERE WHAT IT READS IS OF BULK AT MOST 1048576: true; the input reads as it did. -/
def bitsBackUptoRow : OpenClaim := { program := "ytkdbmajkjlnpiaa", sum := "ae0cb0e82bd2a28f1e4d40629eee4ec5f6ed5d09372d43e744e1ca056a651d6b", func := "bowline/bowlinelaw01.BitsBack", spec := "bitsBack", apart := false, narrowed := true }
def BitsBackUptoSaid : Prop := bitsBackUptoRow.holds Try.pinned (OpenSpec.upto bitsBackSpec)

/-- 'bowlinelaw03.SpansOrdered', WHERE WHAT IT READS IS OF BULK AT MOST 1048576: true; the input reads as it did. -/
def spansOrderedUptoRow : OpenClaim := { program := "ytkdbmajkjlnpiaa", sum := "ae0cb0e82bd2a28f1e4d40629eee4ec5f6ed5d09372d43e744e1ca056a651d6b", func := "bowline/bowlinelaw03.SpansOrdered", spec := "spansOrdered", unfollowed := true, recurses := true, apart := false, narrowed := true }
def SpansOrderedUptoSaid : Prop := spansOrderedUptoRow.holds Try.pinned (OpenSpec.upto spansOrderedSpec)

/-- 'bowlinelaw04.QueueFronts', WHERE WHAT IT READS IS OF BULK AT MOST 1048576: true; the input reads as it did. -/
def queueFrontsUptoRow : OpenClaim := { program := "ytkdbmajkjlnpiaa", sum := "ae0cb0e82bd2a28f1e4d40629eee4ec5f6ed5d09372d43e744e1ca056a651d6b", func := "bowline/bowlinelaw04.QueueFronts", spec := "queueFronts", apart := false, narrowed := true }
def QueueFrontsUptoSaid : Prop := queueFrontsUptoRow.holds Try.pinned (OpenSpec.upto queueFrontsSpec)

/-- 'bowlinelaw03.SpansAdds', WHERE WHAT IT READS IS OF BULK AT MOST 1048576: true; the input reads as it did. -/
def spansAddsUptoRow : OpenClaim := { program := "ytkdbmajkjlnpiaa", sum := "ae0cb0e82bd2a28f1e4d40629eee4ec5f6ed5d09372d43e744e1ca056a651d6b", func := "bowline/bowlinelaw03.SpansAdds", spec := "spansAdds", unfollowed := true, recurses := true, apart := false, narrowed := true }
def SpansAddsUptoSaid : Prop := spansAddsUptoRow.holds Try.pinned (OpenSpec.upto spansAddsSpec)

/-- 'bowlinelaw04.QueueOrder', WHERE WHAT IT READS IS OF BULK AT MOST 1048576: true; the input reads as it did. -/
def queueOrderUptoRow : OpenClaim := { program := "ytkdbmajkjlnpiaa", sum := "ae0cb0e82bd2a28f1e4d40629eee4ec5f6ed5d09372d43e744e1ca056a651d6b", func := "bowline/bowlinelaw04.QueueOrder", spec := "queueOrder", apart := false, narrowed := true }
def QueueOrderUptoSaid : Prop := queueOrderUptoRow.holds Try.pinned (OpenSpec.upto queueOrderSpec)

/-- 'bowlinelaw04.QueueRoom', WHERE WHAT IT READS IS OF BULK AT MOST 1048576: true; the input reads as it did. -/
def queueRoomUptoRow : OpenClaim := { program := "ytkdbmajkjlnpiaa", sum := "ae0cb0e82bd2a28f1e4d40629eee4ec5f6ed5d09372d43e744e1ca056a651d6b", func := "bowline/bowlinelaw04.QueueRoom", spec := "queueRoom", apart := false, narrowed := true }
def QueueRoomUptoSaid : Prop := queueRoomUptoRow.holds Try.pinned (OpenSpec.upto queueRoomSpec)

/-- 'bowlinelaw04.QueueLives', WHERE WHAT IT READS IS OF BULK AT MOST 1048576: true; the input reads as it did. -/
def queueLivesUptoRow : OpenClaim := { program := "ytkdbmajkjlnpiaa", sum := "ae0cb0e82bd2a28f1e4d40629eee4ec5f6ed5d09372d43e744e1ca056a651d6b", func := "bowline/bowlinelaw04.QueueLives", spec := "queueLives", apart := false, narrowed := true }
def QueueLivesUptoSaid : Prop := queueLivesUptoRow.holds Try.pinned (OpenSpec.upto queueLivesSpec)

end Rows
end Go.Proofs.Ytkdbmajkjlnpiaa
