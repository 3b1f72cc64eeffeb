/-
  No cell of these rows narrows 'for every input' (looked for: loops, veiled, ifaces, maps, wideKeys, modest, calm, conditions, laid).
  DERIVED. THE GIVEN ROWS OF THIS SEAT. 6 by the template 'for every input the law returns true; each argument reads behind the call as it read before'; 0 by the template 'total and deterministic' (their statements: YtgobbmdbkmjlnaaTotals.lean).
  GIVEN WITH THE SEED: the statements are not yours to turn. If you find one false, say at which input.
  Laid BY PROGRAM, IN A SANDBOX (cutbox-rows.mjs): the forced cells as the released guide's own fill.sh prints them over the translation b9c01c9ab5ab8e03… (all of the seat's roots in one cut). By AI agents, Wed Nov 11 2026. No macro, syntax, notation, axiom, sorry.
-/
import Derived.Test.YtgobbmdbkmjlnaaChecked
import GoSem.Claim
import GoSem.ClaimJoined
import GoSem.ClaimMapViews
import Derived.JoinedTies
import Derived.KernelRfl
namespace Go.Proofs.Ytgobbmdbkmjlnaa
/- THE CELL 'sum', in the pinned program and in every row, IS THE sha256 OF THE DUMP (.gsa) THAT YtgobbmdbkmjlnaaProg.lean LOADS. Nothing in Lean hashes anything: it is a label: what it is worth is what the hold of that sum in a sandbox is worth. -/
noncomputable def Try.pinned : Pinned := { name := "ytgobbmdbkmjlnaa", sum := "b9c01c9ab5ab8e036309fde30b520b1ff467f75cea33e41347a370c7a3427d95", checked := Try.checked }
namespace Rows
def none {H : Type} : Left H := { results := [], args := [] }

/-- 'bowlinelaw24.RxbufTwice': WHATEVER THE INPUT: true; the input reads as it did. -/
def rxbufTwiceSpec : ChangeSpec := { name := "rxbufTwice", fn := fun _ => fun
  | [d] => { results := [.lit (.bool true)], args := [d] }
  | _ => none }
def rxbufTwiceRow : OpenClaim := { program := "ytgobbmdbkmjlnaa", sum := "b9c01c9ab5ab8e036309fde30b520b1ff467f75cea33e41347a370c7a3427d95", func := "bowline/bowlinelaw24.RxbufTwice", spec := "rxbufTwice", inPlace := ["internal/bytealg.MakeNoZero"], unfollowed := true, recurses := true, apart := false }
def RxbufTwiceSaid : Prop := rxbufTwiceRow.holds Try.pinned (OpenSpec.ofChange rxbufTwiceSpec)

/-- ITS FALSE NEIGHBOUR: 'it returns false'. Refute it at one input. -/
def rxbufTwiceWrong : ChangeSpec := { name := "rxbufTwice", fn := fun _ => fun
  | [d] => { results := [.lit (.bool false)], args := [d] }
  | _ => none }
def RxbufTwiceWrongFalsely : Prop := rxbufTwiceRow.holds Try.pinned (OpenSpec.ofChange rxbufTwiceWrong)

/-- 'bowlinelaw24.RxbufLives': WHATEVER THE INPUT: true; the input reads as it did. -/
def rxbufLivesSpec : ChangeSpec := { name := "rxbufLives", fn := fun _ => fun
  | [d] => { results := [.lit (.bool true)], args := [d] }
  | _ => none }
def rxbufLivesRow : OpenClaim := { program := "ytgobbmdbkmjlnaa", sum := "b9c01c9ab5ab8e036309fde30b520b1ff467f75cea33e41347a370c7a3427d95", func := "bowline/bowlinelaw24.RxbufLives", spec := "rxbufLives", inPlace := ["internal/bytealg.MakeNoZero"], unfollowed := true, recurses := true, apart := false }
def RxbufLivesSaid : Prop := rxbufLivesRow.holds Try.pinned (OpenSpec.ofChange rxbufLivesSpec)

/-- ITS FALSE NEIGHBOUR: 'it returns false'. Refute it at one input. -/
def rxbufLivesWrong : ChangeSpec := { name := "rxbufLives", fn := fun _ => fun
  | [d] => { results := [.lit (.bool false)], args := [d] }
  | _ => none }
def RxbufLivesWrongFalsely : Prop := rxbufLivesRow.holds Try.pinned (OpenSpec.ofChange rxbufLivesWrong)

/-- 'bowlinelaw19.SentCounts': WHATEVER THE INPUT: true; the input reads as it did. -/
def sentCountsSpec : ChangeSpec := { name := "sentCounts", fn := fun _ => fun
  | [d1, d2, d3, d4] => { results := [.lit (.bool true)], args := [d1, d2, d3, d4] }
  | _ => none }
def sentCountsRow : OpenClaim := { program := "ytgobbmdbkmjlnaa", sum := "b9c01c9ab5ab8e036309fde30b520b1ff467f75cea33e41347a370c7a3427d95", func := "bowline/bowlinelaw19.SentCounts", spec := "sentCounts", inPlace := ["internal/bytealg.MakeNoZero"], unfollowed := true, recurses := true, apart := false }
def SentCountsSaid : Prop := sentCountsRow.holds Try.pinned (OpenSpec.ofChange sentCountsSpec)

/-- ITS FALSE NEIGHBOUR: 'it returns false'. Refute it at one input. -/
def sentCountsWrong : ChangeSpec := { name := "sentCounts", fn := fun _ => fun
  | [d1, d2, d3, d4] => { results := [.lit (.bool false)], args := [d1, d2, d3, d4] }
  | _ => none }
def SentCountsWrongFalsely : Prop := sentCountsRow.holds Try.pinned (OpenSpec.ofChange sentCountsWrong)

/-- 'bowlinelaw19.SentHalves': WHATEVER THE INPUT: true; the input reads as it did. -/
def sentHalvesSpec : ChangeSpec := { name := "sentHalves", fn := fun _ => fun
  | [d1, d2, d3] => { results := [.lit (.bool true)], args := [d1, d2, d3] }
  | _ => none }
def sentHalvesRow : OpenClaim := { program := "ytgobbmdbkmjlnaa", sum := "b9c01c9ab5ab8e036309fde30b520b1ff467f75cea33e41347a370c7a3427d95", func := "bowline/bowlinelaw19.SentHalves", spec := "sentHalves", inPlace := ["internal/bytealg.MakeNoZero"], unfollowed := true, recurses := true, apart := false }
def SentHalvesSaid : Prop := sentHalvesRow.holds Try.pinned (OpenSpec.ofChange sentHalvesSpec)

/-- ITS FALSE NEIGHBOUR: 'it returns false'. Refute it at one input. -/
def sentHalvesWrong : ChangeSpec := { name := "sentHalves", fn := fun _ => fun
  | [d1, d2, d3] => { results := [.lit (.bool false)], args := [d1, d2, d3] }
  | _ => none }
def SentHalvesWrongFalsely : Prop := sentHalvesRow.holds Try.pinned (OpenSpec.ofChange sentHalvesWrong)

/-- 'bowlinelaw19.SentLives': WHATEVER THE INPUT: true; the input reads as it did. -/
def sentLivesSpec : ChangeSpec := { name := "sentLives", fn := fun _ => fun
  | [d1, d2] => { results := [.lit (.bool true)], args := [d1, d2] }
  | _ => none }
def sentLivesRow : OpenClaim := { program := "ytgobbmdbkmjlnaa", sum := "b9c01c9ab5ab8e036309fde30b520b1ff467f75cea33e41347a370c7a3427d95", func := "bowline/bowlinelaw19.SentLives", spec := "sentLives", inPlace := ["internal/bytealg.MakeNoZero"], unfollowed := true, recurses := true, apart := false }
def SentLivesSaid : Prop := sentLivesRow.holds Try.pinned (OpenSpec.ofChange sentLivesSpec)

/-- ITS FALSE NEIGHBOUR: 'it returns false'. Refute it at one input. -/
def sentLivesWrong : ChangeSpec := { name := "sentLives", fn := fun _ => fun
  | [d1, d2] => { results := [.lit (.bool false)], args := [d1, d2] }
  | _ => none }
def SentLivesWrongFalsely : Prop := sentLivesRow.holds Try.pinned (OpenSpec.ofChange sentLivesWrong)

/-- 'bowlinelaw24.RxbufMakes': WHATEVER THE INPUT: true; the input reads as it did. -/
def rxbufMakesSpec : ChangeSpec := { name := "rxbufMakes", fn := fun _ => fun
  | [d1, d2, d3, d4] => { results := [.lit (.bool true)], args := [d1, d2, d3, d4] }
  | _ => none }
def rxbufMakesRow : OpenClaim := { program := "ytgobbmdbkmjlnaa", sum := "b9c01c9ab5ab8e036309fde30b520b1ff467f75cea33e41347a370c7a3427d95", func := "bowline/bowlinelaw24.RxbufMakes", spec := "rxbufMakes", inPlace := ["internal/bytealg.MakeNoZero"], unfollowed := true, recurses := true, apart := false }
def RxbufMakesSaid : Prop := rxbufMakesRow.holds Try.pinned (OpenSpec.ofChange rxbufMakesSpec)

/-- ITS FALSE NEIGHBOUR: 'it returns false'. Refute it at one input. -/
def rxbufMakesWrong : ChangeSpec := { name := "rxbufMakes", fn := fun _ => fun
  | [d1, d2, d3, d4] => { results := [.lit (.bool false)], args := [d1, d2, d3, d4] }
  | _ => none }
def RxbufMakesWrongFalsely : Prop := rxbufMakesRow.holds Try.pinned (OpenSpec.ofChange rxbufMakesWrong)

/- THE SECOND FORM. 'bulk': how many values and letters a reading holds, each counted each time it is reached (what is shared counts as often as it is met; a slice's spare places count too). A statement '..UptoSaid' is the law's where the arguments, and the package variables that the reading takes, are together of bulk at most 1048576: NARROWER than '..Said'. Prove '..Said' where nothing that the law and all that it calls make is longer than what came in: it says more and counts as full. Else prove '..UptoSaid'. A law counts once. -/
mutual
def uptoBulk {H : Type} : DataW H → Nat
  | .lit (.string bytes) => bytes.length + 1
  | .lit _ => 1
  | .nil => 1
  | .ptr d => uptoBulk d + 1
  | .slice elems spare => uptoBulkAll elems + uptoBulkAll spare + 1
  | .agg parts => uptoBulkAll parts + 1
  | .iface _ d => uptoBulk d + 1
  | .map entries => uptoBulkEntries entries + 1
  | .held _ => 1
def uptoBulkAll {H : Type} : List (DataW H) → Nat
  | [] => 0
  | d :: r => uptoBulk d + uptoBulkAll r
def uptoBulkEntries {H : Type} : List (Lit × DataW H) → Nat
  | [] => 0
  | x :: r => uptoBulkEntry x + uptoBulkEntries r
def uptoBulkEntry {H : Type} : Lit × DataW H → Nat
  | (.string bytes, d) => bytes.length + uptoBulk d + 1
  | (_, d) => uptoBulk d + 1
 end
def uptoSmall : (H : Type) → List (DataW H) → Bool := fun _ ds => decide (uptoBulkAll ds ≤ 1048576)
def OpenSpec.upto (s : _root_.Go.ChangeSpec) : _root_.Go.OpenSpec := { _root_.Go.OpenSpec.ofChange s with cond := some uptoSmall }

/-- 'bowlinelaw24.RxbufTwice', WHERE WHAT IT READS IS OF BULK AT MOST 1048576: true; the input reads as it did. -/
def rxbufTwiceUptoRow : OpenClaim := { program := "ytgobbmdbkmjlnaa", sum := "b9c01c9ab5ab8e036309fde30b520b1ff467f75cea33e41347a370c7a3427d95", func := "bowline/bowlinelaw24.RxbufTwice", spec := "rxbufTwice", inPlace := ["internal/bytealg.MakeNoZero"], unfollowed := true, recurses := true, apart := false, narrowed := true }
def RxbufTwiceUptoSaid : Prop := rxbufTwiceUptoRow.holds Try.pinned (OpenSpec.upto rxbufTwiceSpec)

/-- 'bowlinelaw24.RxbufLives', WHERE WHAT IT READS IS OF BULK AT MOST 1048576: true; the input reads as it did. -/
def rxbufLivesUptoRow : OpenClaim := { program := "ytgobbmdbkmjlnaa", sum := "b9c01c9ab5ab8e036309fde30b520b1ff467f75cea33e41347a370c7a3427d95", func := "bowline/bowlinelaw24.RxbufLives", spec := "rxbufLives", inPlace := ["internal/bytealg.MakeNoZero"], unfollowed := true, recurses := true, apart := false, narrowed := true }
def RxbufLivesUptoSaid : Prop := rxbufLivesUptoRow.holds Try.pinned (OpenSpec.upto rxbufLivesSpec)

/-- 'bowlinelaw19.SentCounts', WHERE WHAT IT READS IS OF BULK AT MOST 1048576: true; the input reads as it did. -/
def sentCountsUptoRow : OpenClaim := { program := "ytgobbmdbkmjlnaa", sum := "b9c01c9ab5ab8e036309fde30b520b1ff467f75cea33e41347a370c7a3427d95", func := "bowline/bowlinelaw19.SentCounts", spec := "sentCounts", inPlace := ["internal/bytealg.MakeNoZero"], unfollowed := true, recurses := true, apart := false, narrowed := true }
def SentCountsUptoSaid : Prop := sentCountsUptoRow.holds Try.pinned (OpenSpec.upto sentCountsSpec)

/-- 'bowlinelaw19.SentHalves', WHERE WHAT IT READS IS OF BULK AT MOST 1048576: true; the input reads as it did. -/
def sentHalvesUptoRow : OpenClaim := { program := "ytgobbmdbkmjlnaa", sum := "b9c01c9ab5ab8e036309fde30b520b1ff467f75cea33e41347a370c7a3427d95", func := "bowline/bowlinelaw19.SentHalves", spec := "sentHalves", inPlace := ["internal/bytealg.MakeNoZero"], unfollowed := true, recurses := true, apart := false, narrowed := true }
def SentHalvesUptoSaid : Prop := sentHalvesUptoRow.holds Try.pinned (OpenSpec.upto sentHalvesSpec)

/-- 'bowlinelaw19.SentLives', WHERE WHAT IT READS IS OF BULK AT MOST 1048576: true; the input reads as it did. -/
def sentLivesUptoRow : OpenClaim := { program := "ytgobbmdbkmjlnaa", sum := "b9c01c9ab5ab8e036309fde30b520b1ff467f75cea33e41347a370c7a3427d95", func := "bowline/bowlinelaw19.SentLives", spec := "sentLives", inPlace := ["internal/bytealg.MakeNoZero"], unfollowed := true, recurses := true, apart := false, narrowed := true }
def SentLivesUptoSaid : Prop := sentLivesUptoRow.holds Try.pinned (OpenSpec.upto sentLivesSpec)

/-- 'bowlinelaw24.RxbufMakes', WHERE WHAT IT READS IS OF BULK AT MOST 1048576: true; the input reads as it did. -/
def rxbufMakesUptoRow : OpenClaim := { program := "ytgobbmdbkmjlnaa", sum := "b9c01c9ab5ab8e036309fde30b520b1ff467f75cea33e41347a370c7a3427d95", func := "bowline/bowlinelaw24.RxbufMakes", spec := "rxbufMakes", inPlace := ["internal/bytealg.MakeNoZero"], unfollowed := true, recurses := true, apart := false, narrowed := true }
def RxbufMakesUptoSaid : Prop := rxbufMakesUptoRow.holds Try.pinned (OpenSpec.upto rxbufMakesSpec)

end Rows
end Go.Proofs.Ytgobbmdbkmjlnaa
