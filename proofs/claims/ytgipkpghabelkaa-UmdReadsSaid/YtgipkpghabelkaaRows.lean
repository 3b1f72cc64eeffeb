/-
  No cell of these rows narrows 'for every input' (looked for: loops, veiled, ifaces, maps, wideKeys, modest, calm, conditions, laid).
  DERIVED. THE GIVEN ROWS OF THIS SEAT. 5 by the template 'for every input the law returns true; each argument reads behind the call as it read before'; 0 by the template 'total and deterministic' (their statements: YtgipkpghabelkaaTotals.lean).
  GIVEN WITH THE SEED: the statements are not yours to turn. If you find one false, say at which input.
  Laid BY PROGRAM, IN A SANDBOX (cutbox-rows.mjs): the forced cells as the released guide's own fill.sh prints them over the translation 03dbb0e70a59cb37… (all of the seat's roots in one cut). By AI agents, Wed Nov 11 2026. No macro, syntax, notation, axiom, sorry.
-/
import Derived.Test.YtgipkpghabelkaaChecked
import GoSem.Claim
import GoSem.ClaimJoined
import GoSem.ClaimMapViews
import Derived.JoinedTies
import Derived.KernelRfl
namespace Go.Proofs.Ytgipkpghabelkaa
/- THE CELL 'sum', in the pinned program and in every row, IS THE sha256 OF THE DUMP (.gsa) THAT YtgipkpghabelkaaProg.lean LOADS. Nothing in Lean hashes anything: it is a label: what it is worth is what the hold of that sum in a sandbox is worth. -/
noncomputable def Try.pinned : Pinned := { name := "ytgipkpghabelkaa", sum := "03dbb0e70a59cb379183f55506814200e454bbca3f4b83ee734058f407824e2c", checked := Try.checked }
namespace Rows
def none {H : Type} : Left H := { results := [], args := [] }

/-- 'bowlinelaw20.ResegCuts': WHATEVER THE INPUT: true; the input reads as it did. -/
def resegCutsSpec : ChangeSpec := { name := "resegCuts", fn := fun _ => fun
  | [d1, d2, d3, d4, d5] => { results := [.lit (.bool true)], args := [d1, d2, d3, d4, d5] }
  | _ => none }
def resegCutsRow : OpenClaim := { program := "ytgipkpghabelkaa", sum := "03dbb0e70a59cb379183f55506814200e454bbca3f4b83ee734058f407824e2c", func := "bowline/bowlinelaw20.ResegCuts", spec := "resegCuts", inPlace := ["internal/bytealg.MakeNoZero"], apart := false }
def ResegCutsSaid : Prop := resegCutsRow.holds Try.pinned (OpenSpec.ofChange resegCutsSpec)

/-- ITS FALSE NEIGHBOUR: 'it returns false'. Refute it at one input. -/
def resegCutsWrong : ChangeSpec := { name := "resegCuts", fn := fun _ => fun
  | [d1, d2, d3, d4, d5] => { results := [.lit (.bool false)], args := [d1, d2, d3, d4, d5] }
  | _ => none }
def ResegCutsWrongFalsely : Prop := resegCutsRow.holds Try.pinned (OpenSpec.ofChange resegCutsWrong)

/-- 'bowlinelaw20.ResegFits': WHATEVER THE INPUT: true; the input reads as it did. -/
def resegFitsSpec : ChangeSpec := { name := "resegFits", fn := fun _ => fun
  | [d1, d2, d3, d4, d5] => { results := [.lit (.bool true)], args := [d1, d2, d3, d4, d5] }
  | _ => none }
def resegFitsRow : OpenClaim := { program := "ytgipkpghabelkaa", sum := "03dbb0e70a59cb379183f55506814200e454bbca3f4b83ee734058f407824e2c", func := "bowline/bowlinelaw20.ResegFits", spec := "resegFits", inPlace := ["internal/bytealg.MakeNoZero"], apart := false }
def ResegFitsSaid : Prop := resegFitsRow.holds Try.pinned (OpenSpec.ofChange resegFitsSpec)

/-- ITS FALSE NEIGHBOUR: 'it returns false'. Refute it at one input. -/
def resegFitsWrong : ChangeSpec := { name := "resegFits", fn := fun _ => fun
  | [d1, d2, d3, d4, d5] => { results := [.lit (.bool false)], args := [d1, d2, d3, d4, d5] }
  | _ => none }
def ResegFitsWrongFalsely : Prop := resegFitsRow.holds Try.pinned (OpenSpec.ofChange resegFitsWrong)

/-- 'bowlinelaw20.ResegSame': WHATEVER THE INPUT: true; the input reads as it did. -/
def resegSameSpec : ChangeSpec := { name := "resegSame", fn := fun _ => fun
  | [d1, d2] => { results := [.lit (.bool true)], args := [d1, d2] }
  | _ => none }
def resegSameRow : OpenClaim := { program := "ytgipkpghabelkaa", sum := "03dbb0e70a59cb379183f55506814200e454bbca3f4b83ee734058f407824e2c", func := "bowline/bowlinelaw20.ResegSame", spec := "resegSame", inPlace := ["internal/bytealg.MakeNoZero"], unfollowed := true, recurses := true, apart := false }
def ResegSameSaid : Prop := resegSameRow.holds Try.pinned (OpenSpec.ofChange resegSameSpec)

/-- ITS FALSE NEIGHBOUR: 'it returns false'. Refute it at one input. -/
def resegSameWrong : ChangeSpec := { name := "resegSame", fn := fun _ => fun
  | [d1, d2] => { results := [.lit (.bool false)], args := [d1, d2] }
  | _ => none }
def ResegSameWrongFalsely : Prop := resegSameRow.holds Try.pinned (OpenSpec.ofChange resegSameWrong)

/-- 'bowlinelaw20.ResegWhole': WHATEVER THE INPUT: true; the input reads as it did. -/
def resegWholeSpec : ChangeSpec := { name := "resegWhole", fn := fun _ => fun
  | [d1, d2, d3, d4] => { results := [.lit (.bool true)], args := [d1, d2, d3, d4] }
  | _ => none }
def resegWholeRow : OpenClaim := { program := "ytgipkpghabelkaa", sum := "03dbb0e70a59cb379183f55506814200e454bbca3f4b83ee734058f407824e2c", func := "bowline/bowlinelaw20.ResegWhole", spec := "resegWhole", inPlace := ["internal/bytealg.MakeNoZero"], unfollowed := true, recurses := true, apart := false }
def ResegWholeSaid : Prop := resegWholeRow.holds Try.pinned (OpenSpec.ofChange resegWholeSpec)

/-- ITS FALSE NEIGHBOUR: 'it returns false'. Refute it at one input. -/
def resegWholeWrong : ChangeSpec := { name := "resegWhole", fn := fun _ => fun
  | [d1, d2, d3, d4] => { results := [.lit (.bool false)], args := [d1, d2, d3, d4] }
  | _ => none }
def ResegWholeWrongFalsely : Prop := resegWholeRow.holds Try.pinned (OpenSpec.ofChange resegWholeWrong)

/-- 'bowlinelaw09.UmdReads': WHATEVER THE INPUT: true; the input reads as it did. -/
def umdReadsSpec : ChangeSpec := { name := "umdReads", fn := fun _ => fun
  | [d1, d2] => { results := [.lit (.bool true)], args := [d1, d2] }
  | _ => none }
def umdReadsRow : OpenClaim := { program := "ytgipkpghabelkaa", sum := "03dbb0e70a59cb379183f55506814200e454bbca3f4b83ee734058f407824e2c", func := "bowline/bowlinelaw09.UmdReads", spec := "umdReads", inPlace := ["internal/bytealg.MakeNoZero"], apart := false }
def UmdReadsSaid : Prop := umdReadsRow.holds Try.pinned (OpenSpec.ofChange umdReadsSpec)

/-- ITS FALSE NEIGHBOUR: 'it returns false'. Refute it at one input. -/
def umdReadsWrong : ChangeSpec := { name := "umdReads", fn := fun _ => fun
  | [d1, d2] => { results := [.lit (.bool false)], args := [d1, d2] }
  | _ => none }
def UmdReadsWrongFalsely : Prop := umdReadsRow.holds Try.pinned (OpenSpec.ofChange umdReadsWrong)

/- THE SECOND FORM. 'bulk': how many values and letters a reading holds, each counted each time it is reached (what is shared counts as often as it is met; a slice's spare places count too). A statement '..UptoSaid' is the law's where the arguments, and the package variables that the reading takes, are together of bulk at most 1048576: NARROWER than '..Said'. Prove '..Said' where nothing that the law and all that it calls make is longer than what came in: it says more and counts as full. Else prove '..UptoSaid'. A law counts once. -/
mutual
def uptoBulk {H : Type} : DataW H → Nat
  | .lit (.string bytes) => bytes.length + 1
  | .lit _ => 1
  | .nil => 1
  | .ptr d => uptoBulk d + 1
  | .slice elems spare => uptoBulkAll elems + uptoBulkAll spare + 1
  | .agg parts => uptoBulkAll parts + 1
  | .iface _ d => uptoBulk d + 1
  | .map entries => uptoBulkEntries entries + 1
  | .held _ => 1
def uptoBulkAll {H : Type} : List (DataW H) → Nat
  | [] => 0
  | d :: r => uptoBulk d + uptoBulkAll r
def uptoBulkEntries {H : Type} : List (Lit × DataW H) → Nat
  | [] => 0
  | x :: r => uptoBulkEntry x + uptoBulkEntries r
def uptoBulkEntry {H : Type} : Lit × DataW H → Nat
  | (.string bytes, d) => bytes.length + uptoBulk d + 1
  | (_, d) => uptoBulk d + 1
 end
def uptoSmall : (H : Type) → List (DataW H) → Bool := fun _ ds => decide (uptoBulkAll ds ≤ 1048576)
def OpenSpec.upto (s : _root_.Go.ChangeSpec) : _root_.Go.OpenSpec := { _root_.Go.OpenSpec.ofChange s with cond := some uptoSmall }

/-- 'bowlinelaw20.ResegCuts', WHERE WHAT IT READS IS OF BULK AT MOST 1048576: true; the input reads as it did. -/
def resegCutsUptoRow : OpenClaim := { program := "ytgipkpghabelkaa", sum := "03dbb0e70a59cb379183f55506814200e454bbca3f4b83ee734058f407824e2c", func := "bowline/bowlinelaw20.ResegCuts", spec := "resegCuts", inPlace := ["internal/bytealg.MakeNoZero"], apart := false, narrowed := true }
def ResegCutsUptoSaid : Prop := resegCutsUptoRow.holds Try.pinned (OpenSpec.upto resegCutsSpec)

/-- 'bowlinelaw20.ResegFits', WHERE WHAT IT READS IS OF BULK AT MOST 1048576: true; the input reads as it did. -/
def resegFitsUptoRow : OpenClaim := { program := "ytgipkpghabelkaa", sum := "03dbb0e70a59cb379183f55506814200e454bbca3f4b83ee734058f407824e2c", func := "bowline/bowlinelaw20.ResegFits", spec := "resegFits", inPlace := ["internal/bytealg.MakeNoZero"], apart := false, narrowed := true }
def ResegFitsUptoSaid : Prop := resegFitsUptoRow.holds Try.pinned (OpenSpec.upto resegFitsSpec)

/-- 'bowlinelaw20.ResegSame', WHERE WHAT IT READS IS OF BULK AT MOST 1048576: true; the input reads as it did. -/
def resegSameUptoRow : OpenClaim := { program := "ytgipkpghabelkaa", sum := "03dbb0e70a59cb379183f55506814200e454bbca3f4b83ee734058f407824e2c", func := "bowline/bowlinelaw20.ResegSame", spec := "resegSame", inPlace := ["internal/bytealg.MakeNoZero"], unfollowed := true, recurses := true, apart := false, narrowed := true }
def ResegSameUptoSaid : Prop := resegSameUptoRow.holds Try.pinned (OpenSpec.upto resegSameSpec)

/-- 'bowlinelaw20.ResegWhole', WHERE WHAT IT READS IS OF BULK AT MOST 1048576: true; the input reads as it did. -/
def resegWholeUptoRow : OpenClaim := { program := "ytgipkpghabelkaa", sum := "03dbb0e70a59cb379183f55506814200e454bbca3f4b83ee734058f407824e2c", func := "bowline/bowlinelaw20.ResegWhole", spec := "resegWhole", inPlace := ["internal/bytealg.MakeNoZero"], unfollowed := true, recurses := true, apart := false, narrowed := true }
def ResegWholeUptoSaid : Prop := resegWholeUptoRow.holds Try.pinned (OpenSpec.upto resegWholeSpec)

/-- 'bowlinelaw09.UmdReads', WHERE WHAT IT READS IS OF BULK AT MOST 1048576: true; the input reads as it did. -/
def umdReadsUptoRow : OpenClaim := { program := "ytgipkpghabelkaa", sum := "03dbb0e70a59cb379183f55506814200e454bbca3f4b83ee734058f407824e2c", func := "bowline/bowlinelaw09.UmdReads", spec := "umdReads", inPlace := ["internal/bytealg.MakeNoZero"], apart := false, narrowed := true }
def UmdReadsUptoSaid : Prop := umdReadsUptoRow.holds Try.pinned (OpenSpec.upto umdReadsSpec)

end Rows
end Go.Proofs.Ytgipkpghabelkaa
