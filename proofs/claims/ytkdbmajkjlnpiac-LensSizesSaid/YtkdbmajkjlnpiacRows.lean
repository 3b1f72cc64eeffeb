/-
  No cell of these rows narrows 'for every input' (looked for: loops, veiled, ifaces, maps, wideKeys, modest, calm, conditions, laid).
  DERIVED. THE GIVEN ROWS OF THIS SEAT. 6 by the template 'for every input the law returns true; each argument reads behind the call as it read before'; 0 by the template 'total and deterministic' (their statements: YtkdbmajkjlnpiacTotals.lean).
  GIVEN WITH THE SEED: the statements are not yours to turn. If you find one false, say at which input.
  Laid BY PROGRAM, IN A SANDBOX (cutbox-rows.mjs): the forced cells as the released guide's own fill.sh prints them over the translation 33041af73bdecdbe… (all of the seat's roots in one cut). By AI agents, Wed Nov 11 2026. No macro, syntax, notation, axiom, sorry.
-/
import Derived.Test.YtkdbmajkjlnpiacChecked
import GoSem.Claim
import GoSem.ClaimJoined
import GoSem.ClaimMapViews
import Derived.JoinedTies
import Derived.KernelRfl
namespace Go.Proofs.Ytkdbmajkjlnpiac
/- THE CELL 'sum', in the pinned program and in every row, IS THE sha256 OF THE DUMP (.gsa) THAT YtkdbmajkjlnpiacProg.lean LOADS. Nothing in Lean hashes anything: it is a label: what it is worth is what the hold of that sum in a sandbox is worth. -/
noncomputable def Try.pinned : Pinned := { name := "ytkdbmajkjlnpiac", sum := "33041af73bdecdbeb5bb3453cf1b52c05ecb0e477f44301dd4f095cb6193f1ec", checked := Try.checked }
namespace Rows
def none {H : Type} : Left H := { results := [], args := [] }

/-- 'bowlinelaw08.LensBack': WHATEVER THE INPUT: true; the input reads as it did. -/
def lensBackSpec : ChangeSpec := { name := "lensBack", fn := fun _ => fun
  | [d1, d2, d3, d4] => { results := [.lit (.bool true)], args := [d1, d2, d3, d4] }
  | _ => none }
def lensBackRow : OpenClaim := { program := "ytkdbmajkjlnpiac", sum := "33041af73bdecdbeb5bb3453cf1b52c05ecb0e477f44301dd4f095cb6193f1ec", func := "bowline/bowlinelaw08.LensBack", spec := "lensBack", apart := false }
def LensBackSaid : Prop := lensBackRow.holds Try.pinned (OpenSpec.ofChange lensBackSpec)

/-- ITS FALSE NEIGHBOUR: 'it returns false'. Refute it at one input. -/
def lensBackWrong : ChangeSpec := { name := "lensBack", fn := fun _ => fun
  | [d1, d2, d3, d4] => { results := [.lit (.bool false)], args := [d1, d2, d3, d4] }
  | _ => none }
def LensBackWrongFalsely : Prop := lensBackRow.holds Try.pinned (OpenSpec.ofChange lensBackWrong)

/-- 'bowlinelaw08.LensSizes': WHATEVER THE INPUT: true; the input reads as it did. -/
def lensSizesSpec : ChangeSpec := { name := "lensSizes", fn := fun _ => fun
  | [d1, d2] => { results := [.lit (.bool true)], args := [d1, d2] }
  | _ => none }
def lensSizesRow : OpenClaim := { program := "ytkdbmajkjlnpiac", sum := "33041af73bdecdbeb5bb3453cf1b52c05ecb0e477f44301dd4f095cb6193f1ec", func := "bowline/bowlinelaw08.LensSizes", spec := "lensSizes", apart := false }
def LensSizesSaid : Prop := lensSizesRow.holds Try.pinned (OpenSpec.ofChange lensSizesSpec)

/-- ITS FALSE NEIGHBOUR: 'it returns false'. Refute it at one input. -/
def lensSizesWrong : ChangeSpec := { name := "lensSizes", fn := fun _ => fun
  | [d1, d2] => { results := [.lit (.bool false)], args := [d1, d2] }
  | _ => none }
def LensSizesWrongFalsely : Prop := lensSizesRow.holds Try.pinned (OpenSpec.ofChange lensSizesWrong)

/-- 'bowlinelaw23.RxwinLives': WHATEVER THE INPUT: true; the input reads as it did. -/
def rxwinLivesSpec : ChangeSpec := { name := "rxwinLives", fn := fun _ => fun
  | [d1, d2, d3, d4] => { results := [.lit (.bool true)], args := [d1, d2, d3, d4] }
  | _ => none }
def rxwinLivesRow : OpenClaim := { program := "ytkdbmajkjlnpiac", sum := "33041af73bdecdbeb5bb3453cf1b52c05ecb0e477f44301dd4f095cb6193f1ec", func := "bowline/bowlinelaw23.RxwinLives", spec := "rxwinLives", apart := false }
def RxwinLivesSaid : Prop := rxwinLivesRow.holds Try.pinned (OpenSpec.ofChange rxwinLivesSpec)

/-- ITS FALSE NEIGHBOUR: 'it returns false'. Refute it at one input. -/
def rxwinLivesWrong : ChangeSpec := { name := "rxwinLives", fn := fun _ => fun
  | [d1, d2, d3, d4] => { results := [.lit (.bool false)], args := [d1, d2, d3, d4] }
  | _ => none }
def RxwinLivesWrongFalsely : Prop := rxwinLivesRow.holds Try.pinned (OpenSpec.ofChange rxwinLivesWrong)

/-- 'bowlinelaw38.BsrLevels': WHATEVER THE INPUT: true; the input reads as it did. -/
def bsrLevelsSpec : ChangeSpec := { name := "bsrLevels", fn := fun _ => fun
  | [d1, d2, d3, d4] => { results := [.lit (.bool true)], args := [d1, d2, d3, d4] }
  | _ => none }
def bsrLevelsRow : OpenClaim := { program := "ytkdbmajkjlnpiac", sum := "33041af73bdecdbeb5bb3453cf1b52c05ecb0e477f44301dd4f095cb6193f1ec", func := "bowline/bowlinelaw38.BsrLevels", spec := "bsrLevels", apart := false }
def BsrLevelsSaid : Prop := bsrLevelsRow.holds Try.pinned (OpenSpec.ofChange bsrLevelsSpec)

/-- ITS FALSE NEIGHBOUR: 'it returns false'. Refute it at one input. -/
def bsrLevelsWrong : ChangeSpec := { name := "bsrLevels", fn := fun _ => fun
  | [d1, d2, d3, d4] => { results := [.lit (.bool false)], args := [d1, d2, d3, d4] }
  | _ => none }
def BsrLevelsWrongFalsely : Prop := bsrLevelsRow.holds Try.pinned (OpenSpec.ofChange bsrLevelsWrong)

/-- 'bowlinelaw14.GlueJoins': WHATEVER THE INPUT: true; the input reads as it did. -/
def glueJoinsSpec : ChangeSpec := { name := "glueJoins", fn := fun _ => fun
  | [d1, d2] => { results := [.lit (.bool true)], args := [d1, d2] }
  | _ => none }
def glueJoinsRow : OpenClaim := { program := "ytkdbmajkjlnpiac", sum := "33041af73bdecdbeb5bb3453cf1b52c05ecb0e477f44301dd4f095cb6193f1ec", func := "bowline/bowlinelaw14.GlueJoins", spec := "glueJoins", unfollowed := true, recurses := true, apart := false }
def GlueJoinsSaid : Prop := glueJoinsRow.holds Try.pinned (OpenSpec.ofChange glueJoinsSpec)

/-- ITS FALSE NEIGHBOUR: 'it returns false'. Refute it at one input. -/
def glueJoinsWrong : ChangeSpec := { name := "glueJoins", fn := fun _ => fun
  | [d1, d2] => { results := [.lit (.bool false)], args := [d1, d2] }
  | _ => none }
def GlueJoinsWrongFalsely : Prop := glueJoinsRow.holds Try.pinned (OpenSpec.ofChange glueJoinsWrong)

/-- 'bowlinelaw14.GlueLoses': WHATEVER THE INPUT: true; the input reads as it did. -/
def glueLosesSpec : ChangeSpec := { name := "glueLoses", fn := fun _ => fun
  | [d1, d2, d3] => { results := [.lit (.bool true)], args := [d1, d2, d3] }
  | _ => none }
def glueLosesRow : OpenClaim := { program := "ytkdbmajkjlnpiac", sum := "33041af73bdecdbeb5bb3453cf1b52c05ecb0e477f44301dd4f095cb6193f1ec", func := "bowline/bowlinelaw14.GlueLoses", spec := "glueLoses", unfollowed := true, recurses := true, apart := false }
def GlueLosesSaid : Prop := glueLosesRow.holds Try.pinned (OpenSpec.ofChange glueLosesSpec)

/-- ITS FALSE NEIGHBOUR: 'it returns false'. Refute it at one input. -/
def glueLosesWrong : ChangeSpec := { name := "glueLoses", fn := fun _ => fun
  | [d1, d2, d3] => { results := [.lit (.bool false)], args := [d1, d2, d3] }
  | _ => none }
def GlueLosesWrongFalsely : Prop := glueLosesRow.holds Try.pinned (OpenSpec.ofChange glueLosesWrong)

/- THE SECOND FORM. 'bulk': how many values and letters a reading holds, each counted each time it is reached (what is shared counts as often as it is met; a slice's spare places count too). A statement '..UptoSaid' is the law's where the arguments, and the package variables that the reading takes, are together of bulk at most 1048576: NARROWER than '..Said'. Prove '..Said' where nothing that the law and all that it calls make is longer than what came in: it says more and counts as full. Else prove '..UptoSaid'. A law counts once. -/
mutual
def uptoBulk {H : Type} : DataW H → Nat
  | .lit (.string bytes) => bytes.length + 1
  | .lit _ => 1
  | .nil => 1
  | .ptr d => uptoBulk d + 1
  | .slice elems spare => uptoBulkAll elems + uptoBulkAll spare + 1
  | .agg parts => uptoBulkAll parts + 1
  | .iface _ d => uptoBulk d + 1
  | .map entries => uptoBulkEntries entries + 1
  | .held _ => 1
def uptoBulkAll {H : Type} : List (DataW H) → Nat
  | [] => 0
  | d :: r => uptoBulk d + uptoBulkAll r
def uptoBulkEntries {H : Type} : List (Lit × DataW H) → Nat
  | [] => 0
  | x :: r => uptoBulkEntry x + uptoBulkEntries r
def uptoBulkEntry {H : Type} : Lit × DataW H → Nat
  | (.string bytes, d) => bytes.length + uptoBulk d + 1
  | (_, d) => uptoBulk d + 1
 end
def uptoSmall : (H : Type) → List (DataW H) → Bool := fun _ ds => decide (uptoBulkAll ds ≤ 1048576)
def OpenSpec.upto (s : _root_.Go.ChangeSpec) : _root_.Go.OpenSpec := { _root_.Go.OpenSpec.ofChange s with cond := some uptoSmall }

/-- 'bowlinelaw08.LensBack', WHERE WHAT IT READS IS OF BULK AT MOST 1048576: true; the input reads as it did. -/
def lensBackUptoRow : OpenClaim := { program := "ytkdbmajkjlnpiac", sum := "33041af73bdecdbeb5bb3453cf1b52c05ecb0e477f44301dd4f095cb6193f1ec", func := "bowline/bowlinelaw08.LensBack", spec := "lensBack", apart := false, narrowed := true }
def LensBackUptoSaid : Prop := lensBackUptoRow.holds Try.pinned (OpenSpec.upto lensBackSpec)

/-- 'bowlinelaw08.LensSizes', WHERE WHAT IT READS IS OF BULK AT MOST 1048576: true; the input reads as it did. -/
def lensSizesUptoRow : OpenClaim := { program := "ytkdbmajkjlnpiac", sum := "33041af73bdecdbeb5bb3453cf1b52c05ecb0e477f44301dd4f095cb6193f1ec", func := "bowline/bowlinelaw08.LensSizes", spec := "lensSizes", apart := false, narrowed := true }
def LensSizesUptoSaid : Prop := lensSizesUptoRow.holds Try.pinned (OpenSpec.upto lensSizesSpec)

/-- 'bowlinelaw23.RxwinLives', WHERE WHAT IT READS IS OF BULK AT MOST 1048576: true; the input reads as it did. -/
def rxwinLivesUptoRow : OpenClaim := { program := "ytkdbmajkjlnpiac", sum := "33041af73bdecdbeb5bb3453cf1b52c05ecb0e477f44301dd4f095cb6193f1ec", func := "bowline/bowlinelaw23.RxwinLives", spec := "rxwinLives", apart := false, narrowed := true }
def RxwinLivesUptoSaid : Prop := rxwinLivesUptoRow.holds Try.pinned (OpenSpec.upto rxwinLivesSpec)

/-- 'bowlinelaw38.BsrLevels', WHERE WHAT IT READS IS OF BULK AT MOST 1048576: true; the input reads as it did. -/
def bsrLevelsUptoRow : OpenClaim := { program := "ytkdbmajkjlnpiac", sum := "33041af73bdecdbeb5bb3453cf1b52c05ecb0e477f44301dd4f095cb6193f1ec", func := "bowline/bowlinelaw38.BsrLevels", spec := "bsrLevels", apart := false, narrowed := true }
def BsrLevelsUptoSaid : Prop := bsrLevelsUptoRow.holds Try.pinned (OpenSpec.upto bsrLevelsSpec)

/-- 'bowlinelaw14.GlueJoins', WHERE WHAT IT READS IS OF BULK AT MOST 1048576: true; the input reads as it did. -/
def glueJoinsUptoRow : OpenClaim := { program := "ytkdbmajkjlnpiac", sum := "33041af73bdecdbeb5bb3453cf1b52c05ecb0e477f44301dd4f095cb6193f1ec", func := "bowline/bowlinelaw14.GlueJoins", spec := "glueJoins", unfollowed := true, recurses := true, apart := false, narrowed := true }
def GlueJoinsUptoSaid : Prop := glueJoinsUptoRow.holds Try.pinned (OpenSpec.upto glueJoinsSpec)

/-- 'bowlinelaw14.GlueLoses', WHERE WHAT IT READS IS OF BULK AT MOST 1048576: true; the input reads as it did. -/
def glueLosesUptoRow : OpenClaim := { program := "ytkdbmajkjlnpiac", sum := "33041af73bdecdbeb5bb3453cf1b52c05ecb0e477f44301dd4f095cb6193f1ec", func := "bowline/bowlinelaw14.GlueLoses", spec := "glueLoses", unfollowed := true, recurses := true, apart := false, narrowed := true }
def GlueLosesUptoSaid : Prop := glueLosesUptoRow.holds Try.pinned (OpenSpec.upto glueLosesSpec)

end Rows
end Go.Proofs.Ytkdbmajkjlnpiac
