/-
  No cell of these rows narrows 'for every input' (looked for: loops, veiled, ifaces, maps, wideKeys, modest, calm, conditions, laid).
  DERIVED. THE GIVEN ROWS OF THIS SEAT. 10 by the template 'for every input the law returns true; each argument reads behind the call as it read before'; 0 by the template 'total and deterministic' (their statements: YtghbcleokmcdeaaTotals.lean).
  GIVEN WITH THE SEED: the statements are not yours to turn. If you find one false, say at which input.
  Laid BY PROGRAM, IN A SANDBOX (cutbox-rows.mjs): the forced cells as the released guide's own fill.sh prints them over the translation c478acda9e531063… (all of the seat's roots in one cut). By AI agents, Wed Nov 11 2026. No macro, syntax, notation, axiom, sorry.
-/
import Derived.Test.YtghbcleokmcdeaaChecked
import GoSem.Claim
import GoSem.ClaimJoined
import GoSem.ClaimMapViews
import Derived.JoinedTies
import Derived.KernelRfl
namespace Go.Proofs.Ytghbcleokmcdeaa
/- THE CELL 'sum', in the pinned program and in every row, IS THE sha256 OF THE DUMP (.gsa) THAT YtghbcleokmcdeaaProg.lean LOADS. Nothing in Lean hashes anything: it is a label: what it is worth is what the hold of that sum in a sandbox is worth. -/
noncomputable def Try.pinned : Pinned := { name := "ytghbcleokmcdeaa", sum := "c478acda9e5310639adc60ac3f708be26b057ed0ad4574e8ba174836a270d3d9", checked := Try.checked }
namespace Rows
def none {H : Type} : Left H := { results := [], args := [] }

/-- 'bowlinelaw14.GluePlain': WHATEVER THE INPUT: true; the input reads as it did. -/
def gluePlainSpec : ChangeSpec := { name := "gluePlain", fn := fun _ => fun
  | [d1, d2] => { results := [.lit (.bool true)], args := [d1, d2] }
  | _ => none }
def gluePlainRow : OpenClaim := { program := "ytghbcleokmcdeaa", sum := "c478acda9e5310639adc60ac3f708be26b057ed0ad4574e8ba174836a270d3d9", func := "bowline/bowlinelaw14.GluePlain", spec := "gluePlain", unfollowed := true, recurses := true, apart := false }
def GluePlainSaid : Prop := gluePlainRow.holds Try.pinned (OpenSpec.ofChange gluePlainSpec)

/-- ITS FALSE NEIGHBOUR: 'it returns false'. Refute it at one input. -/
def gluePlainWrong : ChangeSpec := { name := "gluePlain", fn := fun _ => fun
  | [d1, d2] => { results := [.lit (.bool false)], args := [d1, d2] }
  | _ => none }
def GluePlainWrongFalsely : Prop := gluePlainRow.holds Try.pinned (OpenSpec.ofChange gluePlainWrong)

/-- 'bowlinelaw14.GlueJoins': WHATEVER THE INPUT: true; the input reads as it did. -/
def glueJoinsSpec : ChangeSpec := { name := "glueJoins", fn := fun _ => fun
  | [d1, d2] => { results := [.lit (.bool true)], args := [d1, d2] }
  | _ => none }
def glueJoinsRow : OpenClaim := { program := "ytghbcleokmcdeaa", sum := "c478acda9e5310639adc60ac3f708be26b057ed0ad4574e8ba174836a270d3d9", func := "bowline/bowlinelaw14.GlueJoins", spec := "glueJoins", unfollowed := true, recurses := true, apart := false }
def GlueJoinsSaid : Prop := glueJoinsRow.holds Try.pinned (OpenSpec.ofChange glueJoinsSpec)

/-- ITS FALSE NEIGHBOUR: 'it returns false'. Refute it at one input. -/
def glueJoinsWrong : ChangeSpec := { name := "glueJoins", fn := fun _ => fun
  | [d1, d2] => { results := [.lit (.bool false)], args := [d1, d2] }
  | _ => none }
def GlueJoinsWrongFalsely : Prop := glueJoinsRow.holds Try.pinned (OpenSpec.ofChange glueJoinsWrong)

/-- 'bowlinelaw14.GlueLoses': WHATEVER THE INPUT: true; the input reads as it did. -/
def glueLosesSpec : ChangeSpec := { name := "glueLoses", fn := fun _ => fun
  | [d1, d2, d3] => { results := [.lit (.bool true)], args := [d1, d2, d3] }
  | _ => none }
def glueLosesRow : OpenClaim := { program := "ytghbcleokmcdeaa", sum := "c478acda9e5310639adc60ac3f708be26b057ed0ad4574e8ba174836a270d3d9", func := "bowline/bowlinelaw14.GlueLoses", spec := "glueLoses", unfollowed := true, recurses := true, apart := false }
def GlueLosesSaid : Prop := glueLosesRow.holds Try.pinned (OpenSpec.ofChange glueLosesSpec)

/-- ITS FALSE NEIGHBOUR: 'it returns false'. Refute it at one input. -/
def glueLosesWrong : ChangeSpec := { name := "glueLoses", fn := fun _ => fun
  | [d1, d2, d3] => { results := [.lit (.bool false)], args := [d1, d2, d3] }
  | _ => none }
def GlueLosesWrongFalsely : Prop := glueLosesRow.holds Try.pinned (OpenSpec.ofChange glueLosesWrong)

/-- 'bowlinelaw03.SpansOrdered': WHATEVER THE INPUT: true; the input reads as it did. -/
def spansOrderedSpec : ChangeSpec := { name := "spansOrdered", fn := fun _ => fun
  | [d] => { results := [.lit (.bool true)], args := [d] }
  | _ => none }
def spansOrderedRow : OpenClaim := { program := "ytghbcleokmcdeaa", sum := "c478acda9e5310639adc60ac3f708be26b057ed0ad4574e8ba174836a270d3d9", func := "bowline/bowlinelaw03.SpansOrdered", spec := "spansOrdered", unfollowed := true, recurses := true, apart := false }
def SpansOrderedSaid : Prop := spansOrderedRow.holds Try.pinned (OpenSpec.ofChange spansOrderedSpec)

/-- ITS FALSE NEIGHBOUR: 'it returns false'. Refute it at one input. -/
def spansOrderedWrong : ChangeSpec := { name := "spansOrdered", fn := fun _ => fun
  | [d] => { results := [.lit (.bool false)], args := [d] }
  | _ => none }
def SpansOrderedWrongFalsely : Prop := spansOrderedRow.holds Try.pinned (OpenSpec.ofChange spansOrderedWrong)

/-- 'bowlinelaw03.SpansAdds': WHATEVER THE INPUT: true; the input reads as it did. -/
def spansAddsSpec : ChangeSpec := { name := "spansAdds", fn := fun _ => fun
  | [d1, d2, d3] => { results := [.lit (.bool true)], args := [d1, d2, d3] }
  | _ => none }
def spansAddsRow : OpenClaim := { program := "ytghbcleokmcdeaa", sum := "c478acda9e5310639adc60ac3f708be26b057ed0ad4574e8ba174836a270d3d9", func := "bowline/bowlinelaw03.SpansAdds", spec := "spansAdds", unfollowed := true, recurses := true, apart := false }
def SpansAddsSaid : Prop := spansAddsRow.holds Try.pinned (OpenSpec.ofChange spansAddsSpec)

/-- ITS FALSE NEIGHBOUR: 'it returns false'. Refute it at one input. -/
def spansAddsWrong : ChangeSpec := { name := "spansAdds", fn := fun _ => fun
  | [d1, d2, d3] => { results := [.lit (.bool false)], args := [d1, d2, d3] }
  | _ => none }
def SpansAddsWrongFalsely : Prop := spansAddsRow.holds Try.pinned (OpenSpec.ofChange spansAddsWrong)

/-- 'bowlinelaw03.SpansLive': WHATEVER THE INPUT: true; the input reads as it did. -/
def spansLiveSpec : ChangeSpec := { name := "spansLive", fn := fun _ => fun
  | [d1, d2, d3] => { results := [.lit (.bool true)], args := [d1, d2, d3] }
  | _ => none }
def spansLiveRow : OpenClaim := { program := "ytghbcleokmcdeaa", sum := "c478acda9e5310639adc60ac3f708be26b057ed0ad4574e8ba174836a270d3d9", func := "bowline/bowlinelaw03.SpansLive", spec := "spansLive", unfollowed := true, recurses := true, apart := false }
def SpansLiveSaid : Prop := spansLiveRow.holds Try.pinned (OpenSpec.ofChange spansLiveSpec)

/-- ITS FALSE NEIGHBOUR: 'it returns false'. Refute it at one input. -/
def spansLiveWrong : ChangeSpec := { name := "spansLive", fn := fun _ => fun
  | [d1, d2, d3] => { results := [.lit (.bool false)], args := [d1, d2, d3] }
  | _ => none }
def SpansLiveWrongFalsely : Prop := spansLiveRow.holds Try.pinned (OpenSpec.ofChange spansLiveWrong)

/-- 'bowlinelaw03.SpansOrder': WHATEVER THE INPUT: true; the input reads as it did. -/
def spansOrderSpec : ChangeSpec := { name := "spansOrder", fn := fun _ => fun
  | [d1, d2] => { results := [.lit (.bool true)], args := [d1, d2] }
  | _ => none }
def spansOrderRow : OpenClaim := { program := "ytghbcleokmcdeaa", sum := "c478acda9e5310639adc60ac3f708be26b057ed0ad4574e8ba174836a270d3d9", func := "bowline/bowlinelaw03.SpansOrder", spec := "spansOrder", unfollowed := true, recurses := true, apart := false }
def SpansOrderSaid : Prop := spansOrderRow.holds Try.pinned (OpenSpec.ofChange spansOrderSpec)

/-- ITS FALSE NEIGHBOUR: 'it returns false'. Refute it at one input. -/
def spansOrderWrong : ChangeSpec := { name := "spansOrder", fn := fun _ => fun
  | [d1, d2] => { results := [.lit (.bool false)], args := [d1, d2] }
  | _ => none }
def SpansOrderWrongFalsely : Prop := spansOrderRow.holds Try.pinned (OpenSpec.ofChange spansOrderWrong)

/-- 'bowlinelaw04.QueueFronts': WHATEVER THE INPUT: true; the input reads as it did. -/
def queueFrontsSpec : ChangeSpec := { name := "queueFronts", fn := fun _ => fun
  | [d1, d2, d3] => { results := [.lit (.bool true)], args := [d1, d2, d3] }
  | _ => none }
def queueFrontsRow : OpenClaim := { program := "ytghbcleokmcdeaa", sum := "c478acda9e5310639adc60ac3f708be26b057ed0ad4574e8ba174836a270d3d9", func := "bowline/bowlinelaw04.QueueFronts", spec := "queueFronts", apart := false }
def QueueFrontsSaid : Prop := queueFrontsRow.holds Try.pinned (OpenSpec.ofChange queueFrontsSpec)

/-- ITS FALSE NEIGHBOUR: 'it returns false'. Refute it at one input. -/
def queueFrontsWrong : ChangeSpec := { name := "queueFronts", fn := fun _ => fun
  | [d1, d2, d3] => { results := [.lit (.bool false)], args := [d1, d2, d3] }
  | _ => none }
def QueueFrontsWrongFalsely : Prop := queueFrontsRow.holds Try.pinned (OpenSpec.ofChange queueFrontsWrong)

/-- 'bowlinelaw04.QueueRoom': WHATEVER THE INPUT: true; the input reads as it did. -/
def queueRoomSpec : ChangeSpec := { name := "queueRoom", fn := fun _ => fun
  | [d1, d2, d3] => { results := [.lit (.bool true)], args := [d1, d2, d3] }
  | _ => none }
def queueRoomRow : OpenClaim := { program := "ytghbcleokmcdeaa", sum := "c478acda9e5310639adc60ac3f708be26b057ed0ad4574e8ba174836a270d3d9", func := "bowline/bowlinelaw04.QueueRoom", spec := "queueRoom", apart := false }
def QueueRoomSaid : Prop := queueRoomRow.holds Try.pinned (OpenSpec.ofChange queueRoomSpec)

/-- ITS FALSE NEIGHBOUR: 'it returns false'. Refute it at one input. -/
def queueRoomWrong : ChangeSpec := { name := "queueRoom", fn := fun _ => fun
  | [d1, d2, d3] => { results := [.lit (.bool false)], args := [d1, d2, d3] }
  | _ => none }
def QueueRoomWrongFalsely : Prop := queueRoomRow.holds Try.pinned (OpenSpec.ofChange queueRoomWrong)

/-- 'bowlinelaw04.QueueLives': WHATEVER THE INPUT: true; the input reads as it did. -/
def queueLivesSpec : ChangeSpec := { name := "queueLives", fn := fun _ => fun
  | [d1, d2] => { results := [.lit (.bool true)], args := [d1, d2] }
  | _ => none }
def queueLivesRow : OpenClaim := { program := "ytghbcleokmcdeaa", sum := "c478acda9e5310639adc60ac3f708be26b057ed0ad4574e8ba174836a270d3d9", func := "bowline/bowlinelaw04.QueueLives", spec := "queueLives", apart := false }
def QueueLivesSaid : Prop := queueLivesRow.holds Try.pinned (OpenSpec.ofChange queueLivesSpec)

/-- ITS FALSE NEIGHBOUR: 'it returns false'. Refute it at one input. -/
def queueLivesWrong : ChangeSpec := { name := "queueLives", fn := fun _ => fun
  | [d1, d2] => { results := [.lit (.bool false)], args := [d1, d2] }
  | _ => none }
def QueueLivesWrongFalsely : Prop := queueLivesRow.holds Try.pinned (OpenSpec.ofChange queueLivesWrong)

/- THE SECOND FORM. 'bulk': how many values and letters a reading holds, each counted each time it is reached (what is shared counts as often as it is met; a slice's spare places count too). A statement '..UptoSaid' is the law's where the arguments, and the package variables that the reading takes, are together of bulk at most 1048576: NARROWER than '..Said'. Prove '..Said' where nothing that the law and all that it calls make is longer than what came in: it says more and counts as full. Else prove '..UptoSaid'. A law counts once. -/
mutual
def uptoBulk {H : Type} : DataW H → Nat
  | .lit (.string bytes) => bytes.length + 1
  | .lit _ => 1
  | .nil => 1
  | .ptr d => uptoBulk d + 1
  | .slice elems spare => uptoBulkAll elems + uptoBulkAll spare + 1
  | .agg parts => uptoBulkAll parts + 1
  | .iface _ d => uptoBulk d + 1
  | .map entries => uptoBulkEntries entries + 1
  | .held _ => 1
def uptoBulkAll {H : Type} : List (DataW H) → Nat
  | [] => 0
  | d :: r => uptoBulk d + uptoBulkAll r
def uptoBulkEntries {H : Type} : List (Lit × DataW H) → Nat
  | [] => 0
  | x :: r => uptoBulkEntry x + uptoBulkEntries r
def uptoBulkEntry {H : Type} : Lit × DataW H → Nat
  | (.string bytes, d) => bytes.length + uptoBulk d + 1
  | (_, d) => uptoBulk d + 1
 end
def uptoSmall : (H : Type) → List (DataW H) → Bool := fun _ ds => decide (uptoBulkAll ds ≤ 1048576)
def OpenSpec.upto (s : _root_.Go.ChangeSpec) : _root_.Go.OpenSpec := { _root_.Go.OpenSpec.ofChange s with cond := some uptoSmall }

/-- 'bowlinelaw14.GluePlain', WHERE WHAT IT READS IS OF BULK AT MOST 1048576: true; the input reads as it did. -/
def gluePlainUptoRow : OpenClaim := { program := "ytghbcleokmcdeaa", sum := "c478acda9e5310639adc60ac3f708be26b057ed0ad4574e8ba174836a270d3d9", func := "bowline/bowlinelaw14.GluePlain", spec := "gluePlain", unfollowed := true, recurses := true, apart := false, narrowed := true }
def GluePlainUptoSaid : Prop := gluePlainUptoRow.holds Try.pinned (OpenSpec.upto gluePlainSpec)

/-- 'bowlinelaw14.GlueJoins', WHERE WHAT IT READS IS OF BULK AT MOST 1048576: true; the input reads as it did. -/
def glueJoinsUptoRow : OpenClaim := { program := "ytghbcleokmcdeaa", sum := "c478acda9e5310639adc60ac3f708be26b057ed0ad4574e8ba174836a270d3d9", func := "bowline/bowlinelaw14.GlueJoins", spec := "glueJoins", unfollowed := true, recurses := true, apart := false, narrowed := true }
def GlueJoinsUptoSaid : Prop := glueJoinsUptoRow.holds Try.pinned (OpenSpec.upto glueJoinsSpec)

/-- 'bowlinelaw14.GlueLoses', WHERE WHAT IT READS IS OF BULK AT MOST 1048576: true; the input reads as it did. -/
def glueLosesUptoRow : OpenClaim := { program := "ytghbcleokmcdeaa", sum := "c478acda9e5310639adc60ac3f708be26b057ed0ad4574e8ba174836a270d3d9", func := "bowline/bowlinelaw14.GlueLoses", spec := "glueLoses", unfollowed := true, recurses := true, apart := false, narrowed := true }
def GlueLosesUptoSaid : Prop := glueLosesUptoRow.holds Try.pinned (OpenSpec.upto glueLosesSpec)

/-- 'bowlinelaw03.SpansOrdered', WHERE WHAT IT READS IS OF BULK AT MOST 1048576: true; the input reads as it did. -/
def spansOrderedUptoRow : OpenClaim := { program := "ytghbcleokmcdeaa", sum := "c478acda9e5310639adc60ac3f708be26b057ed0ad4574e8ba174836a270d3d9", func := "bowline/bowlinelaw03.SpansOrdered", spec := "spansOrdered", unfollowed := true, recurses := true, apart := false, narrowed := true }
def SpansOrderedUptoSaid : Prop := spansOrderedUptoRow.holds Try.pinned (OpenSpec.upto spansOrderedSpec)

/-- 'bowlinelaw03.SpansAdds', WHERE WHAT IT READS IS OF BULK AT MOST 1048576: true; the input reads as it did. -/
def spansAddsUptoRow : OpenClaim := { program := "ytghbcleokmcdeaa", sum := "c478acda9e5310639adc60ac3f708be26b057ed0ad4574e8ba174836a270d3d9", func := "bowline/bowlinelaw03.SpansAdds", spec := "spansAdds", unfollowed := true, recurses := true, apart := false, narrowed := true }
def SpansAddsUptoSaid : Prop := spansAddsUptoRow.holds Try.pinned (OpenSpec.upto spansAddsSpec)

/-- 'bowlinelaw03.SpansLive', WHERE WHAT IT READS IS OF BULK AT MOST 1048576: true; the input reads as it did. -/
def spansLiveUptoRow : OpenClaim := { program := "ytghbcleokmcdeaa", sum := "c478acda9e5310639adc60ac3f708be26b057ed0ad4574e8ba174836a270d3d9", func := "bowline/bowlinelaw03.SpansLive", spec := "spansLive", unfollowed := true, recurses := true, apart := false, narrowed := true }
def SpansLiveUptoSaid : Prop := spansLiveUptoRow.holds Try.pinned (OpenSpec.upto spansLiveSpec)

/-- 'bowlinelaw03.SpansOrder', WHERE WHAT IT READS IS OF BULK AT MOST 1048576: true; the input reads as it did. -/
def spansOrderUptoRow : OpenClaim := { program := "ytghbcleokmcdeaa", sum := "c478acda9e5310639adc60ac3f708be26b057ed0ad4574e8ba174836a270d3d9", func := "bowline/bowlinelaw03.SpansOrder", spec := "spansOrder", unfollowed := true, recurses := true, apart := false, narrowed := true }
def SpansOrderUptoSaid : Prop := spansOrderUptoRow.holds Try.pinned (OpenSpec.upto spansOrderSpec)

/-- 'bowlinelaw04.QueueFronts', WHERE WHAT IT READS IS OF BULK AT MOST 1048576: true; the input reads as it did. -/
def queueFrontsUptoRow : OpenClaim := { program := "ytghbcleokmcdeaa", sum := "c478acda9e5310639adc60ac3f708be26b057ed0ad4574e8ba174836a270d3d9", func := "bowline/bowlinelaw04.QueueFronts", spec := "queueFronts", apart := false, narrowed := true }
def QueueFrontsUptoSaid : Prop := queueFrontsUptoRow.holds Try.pinned (OpenSpec.upto queueFrontsSpec)

/-- 'bowlinelaw04.QueueRoom', WHERE WHAT IT READS IS OF BULK AT MOST 1048576: true; the input reads as it did. -/
def queueRoomUptoRow : OpenClaim := { program := "ytghbcleokmcdeaa", sum := "c478acda9e5310639adc60ac3f708be26b057ed0ad4574e8ba174836a270d3d9", func := "bowline/bowlinelaw04.QueueRoom", spec := "queueRoom", apart := false, narrowed := true }
def QueueRoomUptoSaid : Prop := queueRoomUptoRow.holds Try.pinned (OpenSpec.upto queueRoomSpec)

/-- 'bowlinelaw04.QueueLives', WHERE WHAT IT READS IS OF BULK AT MOST 1048576: true; the input reads as it did. -/
def queueLivesUptoRow : OpenClaim := { program := "ytghbcleokmcdeaa", sum := "c478acda9e5310639adc60ac3f708be26b057ed0ad4574e8ba174836a270d3d9", func := "bowline/bowlinelaw04.QueueLives", spec := "queueLives", apart := false, narrowed := true }
def QueueLivesUptoSaid : Prop := queueLivesUptoRow.holds Try.pinned (OpenSpec.upto queueLivesSpec)

end Rows
end Go.Proofs.Ytghbcleokmcdeaa
