/-
  No cell of these rows narrows 'for every input' (looked for: loops, veiled, ifaces, maps, wideKeys, modest, calm, conditions, laid).
  DERIVED. THE GIVEN ROWS OF THIS SEAT. 12 by the template 'for every input the law returns true; each argument reads behind the call as it read before'; 0 by the template 'total and deterministic' (their statements: YtkdbmajkjlnpiabTotals.lean).
  GIVEN WITH THE SEED: the statements are not yours to turn. If you find one false, say at which input.
  Laid BY PROGRAM, IN A SANDBOX (cutbox-rows.mjs): the forced cells as the released guide's own fill.sh prints them over the translation 31f3f39fe8bde105… (all of the seat's roots in one cut). By AI agents, Wed Nov 11 2026. No macro, syntax, notation, axiom, sorry.
-/
import Derived.Test.YtkdbmajkjlnpiabChecked
import GoSem.Claim
import GoSem.ClaimJoined
import GoSem.ClaimMapViews
import Derived.JoinedTies
import Derived.KernelRfl
namespace Go.Proofs.Ytkdbmajkjlnpiab
/- THE CELL 'sum', in the pinned program and in every row, IS THE sha256 OF THE DUMP (.gsa) THAT YtkdbmajkjlnpiabProg.lean LOADS. Nothing in Lean hashes anything: it is a label: what it is worth is what the hold of that sum in a sandbox is worth. -/
noncomputable def Try.pinned : Pinned := { name := "ytkdbmajkjlnpiab", sum := "31f3f39fe8bde105ee8a9bad2e394fd361848e8cb76153026c32540cbbdb1bff", checked := Try.checked }
namespace Rows
def none {H : Type} : Left H := { results := [], args := [] }

/-- 'bowlinelaw13.CutFits': WHATEVER THE INPUT: true; the input reads as it did. -/
def cutFitsSpec : ChangeSpec := { name := "cutFits", fn := fun _ => fun
  | [d1, d2, d3] => { results := [.lit (.bool true)], args := [d1, d2, d3] }
  | _ => none }
def cutFitsRow : OpenClaim := { program := "ytkdbmajkjlnpiab", sum := "31f3f39fe8bde105ee8a9bad2e394fd361848e8cb76153026c32540cbbdb1bff", func := "bowline/bowlinelaw13.CutFits", spec := "cutFits", apart := false }
def CutFitsSaid : Prop := cutFitsRow.holds Try.pinned (OpenSpec.ofChange cutFitsSpec)

/-- ITS FALSE NEIGHBOUR: 'it returns false'. Refute it at one input. -/
def cutFitsWrong : ChangeSpec := { name := "cutFits", fn := fun _ => fun
  | [d1, d2, d3] => { results := [.lit (.bool false)], args := [d1, d2, d3] }
  | _ => none }
def CutFitsWrongFalsely : Prop := cutFitsRow.holds Try.pinned (OpenSpec.ofChange cutFitsWrong)

/-- 'bowlinelaw13.CutOne': WHATEVER THE INPUT: true; the input reads as it did. -/
def cutOneSpec : ChangeSpec := { name := "cutOne", fn := fun _ => fun
  | [d1, d2, d3] => { results := [.lit (.bool true)], args := [d1, d2, d3] }
  | _ => none }
def cutOneRow : OpenClaim := { program := "ytkdbmajkjlnpiab", sum := "31f3f39fe8bde105ee8a9bad2e394fd361848e8cb76153026c32540cbbdb1bff", func := "bowline/bowlinelaw13.CutOne", spec := "cutOne", apart := false }
def CutOneSaid : Prop := cutOneRow.holds Try.pinned (OpenSpec.ofChange cutOneSpec)

/-- ITS FALSE NEIGHBOUR: 'it returns false'. Refute it at one input. -/
def cutOneWrong : ChangeSpec := { name := "cutOne", fn := fun _ => fun
  | [d1, d2, d3] => { results := [.lit (.bool false)], args := [d1, d2, d3] }
  | _ => none }
def CutOneWrongFalsely : Prop := cutOneRow.holds Try.pinned (OpenSpec.ofChange cutOneWrong)

/-- 'bowlinelaw03.SpansLive': WHATEVER THE INPUT: true; the input reads as it did. -/
def spansLiveSpec : ChangeSpec := { name := "spansLive", fn := fun _ => fun
  | [d1, d2, d3] => { results := [.lit (.bool true)], args := [d1, d2, d3] }
  | _ => none }
def spansLiveRow : OpenClaim := { program := "ytkdbmajkjlnpiab", sum := "31f3f39fe8bde105ee8a9bad2e394fd361848e8cb76153026c32540cbbdb1bff", func := "bowline/bowlinelaw03.SpansLive", spec := "spansLive", unfollowed := true, recurses := true, apart := false }
def SpansLiveSaid : Prop := spansLiveRow.holds Try.pinned (OpenSpec.ofChange spansLiveSpec)

/-- ITS FALSE NEIGHBOUR: 'it returns false'. Refute it at one input. -/
def spansLiveWrong : ChangeSpec := { name := "spansLive", fn := fun _ => fun
  | [d1, d2, d3] => { results := [.lit (.bool false)], args := [d1, d2, d3] }
  | _ => none }
def SpansLiveWrongFalsely : Prop := spansLiveRow.holds Try.pinned (OpenSpec.ofChange spansLiveWrong)

/-- 'bowlinelaw03.SpansOrder': WHATEVER THE INPUT: true; the input reads as it did. -/
def spansOrderSpec : ChangeSpec := { name := "spansOrder", fn := fun _ => fun
  | [d1, d2] => { results := [.lit (.bool true)], args := [d1, d2] }
  | _ => none }
def spansOrderRow : OpenClaim := { program := "ytkdbmajkjlnpiab", sum := "31f3f39fe8bde105ee8a9bad2e394fd361848e8cb76153026c32540cbbdb1bff", func := "bowline/bowlinelaw03.SpansOrder", spec := "spansOrder", unfollowed := true, recurses := true, apart := false }
def SpansOrderSaid : Prop := spansOrderRow.holds Try.pinned (OpenSpec.ofChange spansOrderSpec)

/-- ITS FALSE NEIGHBOUR: 'it returns false'. Refute it at one input. -/
def spansOrderWrong : ChangeSpec := { name := "spansOrder", fn := fun _ => fun
  | [d1, d2] => { results := [.lit (.bool false)], args := [d1, d2] }
  | _ => none }
def SpansOrderWrongFalsely : Prop := spansOrderRow.holds Try.pinned (OpenSpec.ofChange spansOrderWrong)

/-- 'bowlinelaw13.CutBuilds': WHATEVER THE INPUT: true; the input reads as it did. -/
def cutBuildsSpec : ChangeSpec := { name := "cutBuilds", fn := fun _ => fun
  | [d] => { results := [.lit (.bool true)], args := [d] }
  | _ => none }
def cutBuildsRow : OpenClaim := { program := "ytkdbmajkjlnpiab", sum := "31f3f39fe8bde105ee8a9bad2e394fd361848e8cb76153026c32540cbbdb1bff", func := "bowline/bowlinelaw13.CutBuilds", spec := "cutBuilds", apart := false }
def CutBuildsSaid : Prop := cutBuildsRow.holds Try.pinned (OpenSpec.ofChange cutBuildsSpec)

/-- ITS FALSE NEIGHBOUR: 'it returns false'. Refute it at one input. -/
def cutBuildsWrong : ChangeSpec := { name := "cutBuilds", fn := fun _ => fun
  | [d] => { results := [.lit (.bool false)], args := [d] }
  | _ => none }
def CutBuildsWrongFalsely : Prop := cutBuildsRow.holds Try.pinned (OpenSpec.ofChange cutBuildsWrong)

/-- 'bowlinelaw38.BsrBytes': WHATEVER THE INPUT: true; the input reads as it did. -/
def bsrBytesSpec : ChangeSpec := { name := "bsrBytes", fn := fun _ => fun
  | [d1, d2] => { results := [.lit (.bool true)], args := [d1, d2] }
  | _ => none }
def bsrBytesRow : OpenClaim := { program := "ytkdbmajkjlnpiab", sum := "31f3f39fe8bde105ee8a9bad2e394fd361848e8cb76153026c32540cbbdb1bff", func := "bowline/bowlinelaw38.BsrBytes", spec := "bsrBytes", apart := false }
def BsrBytesSaid : Prop := bsrBytesRow.holds Try.pinned (OpenSpec.ofChange bsrBytesSpec)

/-- ITS FALSE NEIGHBOUR: 'it returns false'. Refute it at one input. -/
def bsrBytesWrong : ChangeSpec := { name := "bsrBytes", fn := fun _ => fun
  | [d1, d2] => { results := [.lit (.bool false)], args := [d1, d2] }
  | _ => none }
def BsrBytesWrongFalsely : Prop := bsrBytesRow.holds Try.pinned (OpenSpec.ofChange bsrBytesWrong)

/-- 'bowlinelaw38.BsrRough': WHATEVER THE INPUT: true; the input reads as it did. -/
def bsrRoughSpec : ChangeSpec := { name := "bsrRough", fn := fun _ => fun
  | [d1, d2, d3] => { results := [.lit (.bool true)], args := [d1, d2, d3] }
  | _ => none }
def bsrRoughRow : OpenClaim := { program := "ytkdbmajkjlnpiab", sum := "31f3f39fe8bde105ee8a9bad2e394fd361848e8cb76153026c32540cbbdb1bff", func := "bowline/bowlinelaw38.BsrRough", spec := "bsrRough", apart := false }
def BsrRoughSaid : Prop := bsrRoughRow.holds Try.pinned (OpenSpec.ofChange bsrRoughSpec)

/-- ITS FALSE NEIGHBOUR: 'it returns false'. Refute it at one input. -/
def bsrRoughWrong : ChangeSpec := { name := "bsrRough", fn := fun _ => fun
  | [d1, d2, d3] => { results := [.lit (.bool false)], args := [d1, d2, d3] }
  | _ => none }
def BsrRoughWrongFalsely : Prop := bsrRoughRow.holds Try.pinned (OpenSpec.ofChange bsrRoughWrong)

/-- 'bowlinelaw38.BsrBack': WHATEVER THE INPUT: true; the input reads as it did. -/
def bsrBackSpec : ChangeSpec := { name := "bsrBack", fn := fun _ => fun
  | [d1, d2, d3, d4] => { results := [.lit (.bool true)], args := [d1, d2, d3, d4] }
  | _ => none }
def bsrBackRow : OpenClaim := { program := "ytkdbmajkjlnpiab", sum := "31f3f39fe8bde105ee8a9bad2e394fd361848e8cb76153026c32540cbbdb1bff", func := "bowline/bowlinelaw38.BsrBack", spec := "bsrBack", apart := false }
def BsrBackSaid : Prop := bsrBackRow.holds Try.pinned (OpenSpec.ofChange bsrBackSpec)

/-- ITS FALSE NEIGHBOUR: 'it returns false'. Refute it at one input. -/
def bsrBackWrong : ChangeSpec := { name := "bsrBack", fn := fun _ => fun
  | [d1, d2, d3, d4] => { results := [.lit (.bool false)], args := [d1, d2, d3, d4] }
  | _ => none }
def BsrBackWrongFalsely : Prop := bsrBackRow.holds Try.pinned (OpenSpec.ofChange bsrBackWrong)

/-- 'bowlinelaw23.RxwinOnce': WHATEVER THE INPUT: true; the input reads as it did. -/
def rxwinOnceSpec : ChangeSpec := { name := "rxwinOnce", fn := fun _ => fun
  | [d1, d2, d3] => { results := [.lit (.bool true)], args := [d1, d2, d3] }
  | _ => none }
def rxwinOnceRow : OpenClaim := { program := "ytkdbmajkjlnpiab", sum := "31f3f39fe8bde105ee8a9bad2e394fd361848e8cb76153026c32540cbbdb1bff", func := "bowline/bowlinelaw23.RxwinOnce", spec := "rxwinOnce", apart := false }
def RxwinOnceSaid : Prop := rxwinOnceRow.holds Try.pinned (OpenSpec.ofChange rxwinOnceSpec)

/-- ITS FALSE NEIGHBOUR: 'it returns false'. Refute it at one input. -/
def rxwinOnceWrong : ChangeSpec := { name := "rxwinOnce", fn := fun _ => fun
  | [d1, d2, d3] => { results := [.lit (.bool false)], args := [d1, d2, d3] }
  | _ => none }
def RxwinOnceWrongFalsely : Prop := rxwinOnceRow.holds Try.pinned (OpenSpec.ofChange rxwinOnceWrong)

/-- 'bowlinelaw23.RxwinFar': WHATEVER THE INPUT: true; the input reads as it did. -/
def rxwinFarSpec : ChangeSpec := { name := "rxwinFar", fn := fun _ => fun
  | [d1, d2, d3] => { results := [.lit (.bool true)], args := [d1, d2, d3] }
  | _ => none }
def rxwinFarRow : OpenClaim := { program := "ytkdbmajkjlnpiab", sum := "31f3f39fe8bde105ee8a9bad2e394fd361848e8cb76153026c32540cbbdb1bff", func := "bowline/bowlinelaw23.RxwinFar", spec := "rxwinFar", apart := false }
def RxwinFarSaid : Prop := rxwinFarRow.holds Try.pinned (OpenSpec.ofChange rxwinFarSpec)

/-- ITS FALSE NEIGHBOUR: 'it returns false'. Refute it at one input. -/
def rxwinFarWrong : ChangeSpec := { name := "rxwinFar", fn := fun _ => fun
  | [d1, d2, d3] => { results := [.lit (.bool false)], args := [d1, d2, d3] }
  | _ => none }
def RxwinFarWrongFalsely : Prop := rxwinFarRow.holds Try.pinned (OpenSpec.ofChange rxwinFarWrong)

/-- 'bowlinelaw08.LensWrites': WHATEVER THE INPUT: true; the input reads as it did. -/
def lensWritesSpec : ChangeSpec := { name := "lensWrites", fn := fun _ => fun
  | [d1, d2, d3] => { results := [.lit (.bool true)], args := [d1, d2, d3] }
  | _ => none }
def lensWritesRow : OpenClaim := { program := "ytkdbmajkjlnpiab", sum := "31f3f39fe8bde105ee8a9bad2e394fd361848e8cb76153026c32540cbbdb1bff", func := "bowline/bowlinelaw08.LensWrites", spec := "lensWrites", apart := false }
def LensWritesSaid : Prop := lensWritesRow.holds Try.pinned (OpenSpec.ofChange lensWritesSpec)

/-- ITS FALSE NEIGHBOUR: 'it returns false'. Refute it at one input. -/
def lensWritesWrong : ChangeSpec := { name := "lensWrites", fn := fun _ => fun
  | [d1, d2, d3] => { results := [.lit (.bool false)], args := [d1, d2, d3] }
  | _ => none }
def LensWritesWrongFalsely : Prop := lensWritesRow.holds Try.pinned (OpenSpec.ofChange lensWritesWrong)

/-- 'bowlinelaw08.LensReads': WHATEVER THE INPUT: true; the input reads as it did. -/
def lensReadsSpec : ChangeSpec := { name := "lensReads", fn := fun _ => fun
  | [d1, d2] => { results := [.lit (.bool true)], args := [d1, d2] }
  | _ => none }
def lensReadsRow : OpenClaim := { program := "ytkdbmajkjlnpiab", sum := "31f3f39fe8bde105ee8a9bad2e394fd361848e8cb76153026c32540cbbdb1bff", func := "bowline/bowlinelaw08.LensReads", spec := "lensReads", apart := false }
def LensReadsSaid : Prop := lensReadsRow.holds Try.pinned (OpenSpec.ofChange lensReadsSpec)

/-- ITS FALSE NEIGHBOUR: 'it returns false'. Refute it at one input. -/
def lensReadsWrong : ChangeSpec := { name := "lensReads", fn := fun _ => fun
  | [d1, d2] => { results := [.lit (.bool false)], args := [d1, d2] }
  | _ => none }
def LensReadsWrongFalsely : Prop := lensReadsRow.holds Try.pinned (OpenSpec.ofChange lensReadsWrong)

/- THE SECOND FORM. 'bulk': how many values and letters a reading holds, each counted each time it is reached (what is shared counts as often as it is met; a slice's spare places count too). A statement '..UptoSaid' is the law's where the arguments, and the package variables that the reading takes, are together of bulk at most 1048576: NARROWER than '..Said'. Prove '..Said' where nothing that the law and all that it calls make is longer than what came in: it says more and counts as full. Else prove '..UptoSaid'. A law counts once. -/
mutual
def uptoBulk {H : Type} : DataW H → Nat
  | .lit (.string bytes) => bytes.length + 1
  | .lit _ => 1
  | .nil => 1
  | .ptr d => uptoBulk d + 1
  | .slice elems spare => uptoBulkAll elems + uptoBulkAll spare + 1
  | .agg parts => uptoBulkAll parts + 1
  | .iface _ d => uptoBulk d + 1
  | .map entries => uptoBulkEntries entries + 1
  | .held _ => 1
def uptoBulkAll {H : Type} : List (DataW H) → Nat
  | [] => 0
  | d :: r => uptoBulk d + uptoBulkAll r
def uptoBulkEntries {H : Type} : List (Lit × DataW H) → Nat
  | [] => 0
  | x :: r => uptoBulkEntry x + uptoBulkEntries r
def uptoBulkEntry {H : Type} : Lit × DataW H → Nat
  | (.string bytes, d) => bytes.length + uptoBulk d + 1
  | (_, d) => uptoBulk d + 1
 end
def uptoSmall : (H : Type) → List (DataW H) → Bool := fun _ ds => decide (uptoBulkAll ds ≤ 1048576)
def OpenSpec.upto (s : _root_.Go.ChangeSpec) : _root_.Go.OpenSpec := { _root_.Go.OpenSpec.ofChange s with cond := some uptoSmall }

/-- 'bowlinelaw13.CutFits', WHERE WHAT IT READS IS OF BULK AT MOST 1048576: true; the input reads as it did. -/
def cutFitsUptoRow : OpenClaim := { program := "ytkdbmajkjlnpiab", sum := "31f3f39fe8bde105ee8a9bad2e394fd361848e8cb76153026c32540cbbdb1bff", func := "bowline/bowlinelaw13.CutFits", spec := "cutFits", apart := false, narrowed := true }
def CutFitsUptoSaid : Prop := cutFitsUptoRow.holds Try.pinned (OpenSpec.upto cutFitsSpec)

/-- 'bowlinelaw13.CutOne', WHERE WHAT IT READS IS OF BULK AT MOST 1048576: true; the input reads as it did. -/
def cutOneUptoRow : OpenClaim := { program := "ytkdbmajkjlnpiab", sum := "31f3f39fe8bde105ee8a9bad2e394fd361848e8cb76153026c32540cbbdb1bff", func := "bowline/bowlinelaw13.CutOne", spec := "cutOne", apart := false, narrowed := true }
def CutOneUptoSaid : Prop := cutOneUptoRow.holds Try.pinned (OpenSpec.upto cutOneSpec)

/-- 'bowlinelaw03.SpansLive', WHERE WHAT IT READS IS OF BULK AT MOST 1048576: true; the input reads as it did. -/
def spansLiveUptoRow : OpenClaim := { program := "ytkdbmajkjlnpiab", sum := "31f3f39fe8bde105ee8a9bad2e394fd361848e8cb76153026c32540cbbdb1bff", func := "bowline/bowlinelaw03.SpansLive", spec := "spansLive", unfollowed := true, recurses := true, apart := false, narrowed := true }
def SpansLiveUptoSaid : Prop := spansLiveUptoRow.holds Try.pinned (OpenSpec.upto spansLiveSpec)

/-- 'bowlinelaw03.SpansOrder', WHERE WHAT IT READS IS OF BULK AT MOST 1048576: true; the input reads as it did. -/
def spansOrderUptoRow : OpenClaim := { program := "ytkdbmajkjlnpiab", sum := "31f3f39fe8bde105ee8a9bad2e394fd361848e8cb76153026c32540cbbdb1bff", func := "bowline/bowlinelaw03.SpansOrder", spec := "spansOrder", unfollowed := true, recurses := true, apart := false, narrowed := true }
def SpansOrderUptoSaid : Prop := spansOrderUptoRow.holds Try.pinned (OpenSpec.upto spansOrderSpec)

/-- 'bowlinelaw13.CutBuilds', WHERE WHAT IT READS IS OF BULK AT MOST 1048576: true; the input reads as it did. -/
def cutBuildsUptoRow : OpenClaim := { program := "ytkdbmajkjlnpiab", sum := "31f3f39fe8bde105ee8a9bad2e394fd361848e8cb76153026c32540cbbdb1bff", func := "bowline/bowlinelaw13.CutBuilds", spec := "cutBuilds", apart := false, narrowed := true }
def CutBuildsUptoSaid : Prop := cutBuildsUptoRow.holds Try.pinned (OpenSpec.upto cutBuildsSpec)

/-- 'bowlinelaw38.BsrBytes', WHERE WHAT IT READS IS OF BULK AT MOST 1048576: true; the input reads as it did. -/
def bsrBytesUptoRow : OpenClaim := { program := "ytkdbmajkjlnpiab", sum := "31f3f39fe8bde105ee8a9bad2e394fd361848e8cb76153026c32540cbbdb1bff", func := "bowline/bowlinelaw38.BsrBytes", spec := "bsrBytes", apart := false, narrowed := true }
def BsrBytesUptoSaid : Prop := bsrBytesUptoRow.holds Try.pinned (OpenSpec.upto bsrBytesSpec)

/-- 'bowlinelaw38.BsrRough', WHERE WHAT IT READS IS OF BULK AT MOST 1048576: true; the input reads as it did. -/
def bsrRoughUptoRow : OpenClaim := { program := "ytkdbmajkjlnpiab", sum := "31f3f39fe8bde105ee8a9bad2e394fd361848e8cb76153026c32540cbbdb1bff", func := "bowline/bowlinelaw38.BsrRough", spec := "bsrRough", apart := false, narrowed := true }
def BsrRoughUptoSaid : Prop := bsrRoughUptoRow.holds Try.pinned (OpenSpec.upto bsrRoughSpec)

/-- 'bowlinelaw38.BsrBack', WHERE WHAT IT READS IS OF BULK AT MOST 1048576: true; the input reads as it did. -/
def bsrBackUptoRow : OpenClaim := { program := "ytkdbmajkjlnpiab", sum := "31f3f39fe8bde105ee8a9bad2e394fd361848e8cb76153026c32540cbbdb1bff", func := "bowline/bowlinelaw38.BsrBack", spec := "bsrBack", apart := false, narrowed := true }
def BsrBackUptoSaid : Prop := bsrBackUptoRow.holds Try.pinned (OpenSpec.upto bsrBackSpec)

/-- 'bowlinelaw23.RxwinOnce', WHERE WHAT IT READS IS OF BULK AT MOST 1048576: true; the input reads as it did. -/
def rxwinOnceUptoRow : OpenClaim := { program := "ytkdbmajkjlnpiab", sum := "31f3f39fe8bde105ee8a9bad2e394fd361848e8cb76153026c32540cbbdb1bff", func := "bowline/bowlinelaw23.RxwinOnce", spec := "rxwinOnce", apart := false, narrowed := true }
def RxwinOnceUptoSaid : Prop := rxwinOnceUptoRow.holds Try.pinned (OpenSpec.upto rxwinOnceSpec)

/-- 'bowlinelaw23.RxwinFar', WHERE WHAT IT READS IS OF BULK AT MOST 1048576: true; the input reads as it did. -/
def rxwinFarUptoRow : OpenClaim := { program := "ytkdbmajkjlnpiab", sum := "31f3f39fe8bde105ee8a9bad2e394fd361848e8cb76153026c32540cbbdb1bff", func := "bowline/bowlinelaw23.RxwinFar", spec := "rxwinFar", apart := false, narrowed := true }
def RxwinFarUptoSaid : Prop := rxwinFarUptoRow.holds Try.pinned (OpenSpec.upto rxwinFarSpec)

/-- 'bowlinelaw08.LensWrites', WHERE WHAT IT READS IS OF BULK AT MOST 1048576: true; the input reads as it did. -/
def lensWritesUptoRow : OpenClaim := { program := "ytkdbmajkjlnpiab", sum := "31f3f39fe8bde105ee8a9bad2e394fd361848e8cb76153026c32540cbbdb1bff", func := "bowline/bowlinelaw08.LensWrites", spec := "lensWrites", apart := false, narrowed := true }
def LensWritesUptoSaid : Prop := lensWritesUptoRow.holds Try.pinned (OpenSpec.upto lensWritesSpec)

/-- 'bowlinelaw08.LensReads', WHERE WHAT IT READS IS OF BULK AT MOST 1048576: true; the input reads as it did. -/
def lensReadsUptoRow : OpenClaim := { program := "ytkdbmajkjlnpiab", sum := "31f3f39fe8bde105ee8a9bad2e394fd361848e8cb76153026c32540cbbdb1bff", func := "bowline/bowlinelaw08.LensReads", spec := "lensReads", apart := false, narrowed := true }
def LensReadsUptoSaid : Prop := lensReadsUptoRow.holds Try.pinned (OpenSpec.upto lensReadsSpec)

end Rows
end Go.Proofs.Ytkdbmajkjlnpiab
