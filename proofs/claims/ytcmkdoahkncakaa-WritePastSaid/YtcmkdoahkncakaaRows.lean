/-
  No cell of these rows narrows 'for every input' (looked for: loops, veiled, ifaces, maps, wideKeys, modest, calm, conditions, laid).
  DERIVED. THE GIVEN ROWS OF THIS SEAT. 11 by the template 'for every input the law returns true; each argument reads behind the call as it read before'; 0 by the template 'total and deterministic' (their statements: YtcmkdoahkncakaaTotals.lean).
  GIVEN WITH THE SEED: the statements are not yours to turn. If you find one false, say at which input.
  Laid BY PROGRAM, IN A SANDBOX (cutbox-rows.mjs): the forced cells as the released guide's own fill.sh prints them over the translation 585a68d14d051fef… (all of the seat's roots in one cut). By AI agents, Wed Nov 11 2026. No macro, syntax, notation, axiom, sorry.
-/
import Derived.Test.YtcmkdoahkncakaaChecked
import GoSem.Claim
import GoSem.ClaimJoined
import GoSem.ClaimMapViews
import Derived.JoinedTies
import Derived.KernelRfl
namespace Go.Proofs.Ytcmkdoahkncakaa
/- THE CELL 'sum', in the pinned program and in every row, IS THE sha256 OF THE DUMP (.gsa) THAT YtcmkdoahkncakaaProg.lean LOADS. Nothing in Lean hashes anything: it is a label: what it is worth is what the hold of that sum in a sandbox is worth. -/
noncomputable def Try.pinned : Pinned := { name := "ytcmkdoahkncakaa", sum := "585a68d14d051feffd83a85bf3abb2fc8386df3a21ee594c8f8413ac7078639d", checked := Try.checked }
namespace Rows
def none {H : Type} : Left H := { results := [], args := [] }

/-- 'annalkeep.GrowSets': WHATEVER THE INPUT: true; the input reads as it did. -/
def growSetsSpec : ChangeSpec := { name := "growSets", fn := fun _ => fun
  | [d1, d2, d3] => { results := [.lit (.bool true)], args := [d1, d2, d3] }
  | _ => none }
def growSetsRow : OpenClaim := { program := "ytcmkdoahkncakaa", sum := "585a68d14d051feffd83a85bf3abb2fc8386df3a21ee594c8f8413ac7078639d", func := "annalist/annalkeep.GrowSets", spec := "growSets", unfollowed := true, recurses := true, apart := false }
def GrowSetsSaid : Prop := growSetsRow.holds Try.pinned (OpenSpec.ofChange growSetsSpec)

/-- ITS FALSE NEIGHBOUR: 'it returns false'. Refute it at one input. -/
def growSetsWrong : ChangeSpec := { name := "growSets", fn := fun _ => fun
  | [d1, d2, d3] => { results := [.lit (.bool false)], args := [d1, d2, d3] }
  | _ => none }
def GrowSetsWrongFalsely : Prop := growSetsRow.holds Try.pinned (OpenSpec.ofChange growSetsWrong)

/-- 'annalkeep.ShrinkSome': WHATEVER THE INPUT: true; the input reads as it did. -/
def shrinkSomeSpec : ChangeSpec := { name := "shrinkSome", fn := fun _ => fun
  | [d1, d2, d3] => { results := [.lit (.bool true)], args := [d1, d2, d3] }
  | _ => none }
def shrinkSomeRow : OpenClaim := { program := "ytcmkdoahkncakaa", sum := "585a68d14d051feffd83a85bf3abb2fc8386df3a21ee594c8f8413ac7078639d", func := "annalist/annalkeep.ShrinkSome", spec := "shrinkSome", unfollowed := true, recurses := true, apart := false }
def ShrinkSomeSaid : Prop := shrinkSomeRow.holds Try.pinned (OpenSpec.ofChange shrinkSomeSpec)

/-- ITS FALSE NEIGHBOUR: 'it returns false'. Refute it at one input. -/
def shrinkSomeWrong : ChangeSpec := { name := "shrinkSome", fn := fun _ => fun
  | [d1, d2, d3] => { results := [.lit (.bool false)], args := [d1, d2, d3] }
  | _ => none }
def ShrinkSomeWrongFalsely : Prop := shrinkSomeRow.holds Try.pinned (OpenSpec.ofChange shrinkSomeWrong)

/-- 'annalkeep.ShrinkAll': WHATEVER THE INPUT: true; the input reads as it did. -/
def shrinkAllSpec : ChangeSpec := { name := "shrinkAll", fn := fun _ => fun
  | [d1, d2] => { results := [.lit (.bool true)], args := [d1, d2] }
  | _ => none }
def shrinkAllRow : OpenClaim := { program := "ytcmkdoahkncakaa", sum := "585a68d14d051feffd83a85bf3abb2fc8386df3a21ee594c8f8413ac7078639d", func := "annalist/annalkeep.ShrinkAll", spec := "shrinkAll", unfollowed := true, recurses := true, apart := false }
def ShrinkAllSaid : Prop := shrinkAllRow.holds Try.pinned (OpenSpec.ofChange shrinkAllSpec)

/-- ITS FALSE NEIGHBOUR: 'it returns false'. Refute it at one input. -/
def shrinkAllWrong : ChangeSpec := { name := "shrinkAll", fn := fun _ => fun
  | [d1, d2] => { results := [.lit (.bool false)], args := [d1, d2] }
  | _ => none }
def ShrinkAllWrongFalsely : Prop := shrinkAllRow.holds Try.pinned (OpenSpec.ofChange shrinkAllWrong)

/-- 'annalkeep.PruneSteps': WHATEVER THE INPUT: true; the input reads as it did. -/
def pruneStepsSpec : ChangeSpec := { name := "pruneSteps", fn := fun _ => fun
  | [d1, d2, d3] => { results := [.lit (.bool true)], args := [d1, d2, d3] }
  | _ => none }
def pruneStepsRow : OpenClaim := { program := "ytcmkdoahkncakaa", sum := "585a68d14d051feffd83a85bf3abb2fc8386df3a21ee594c8f8413ac7078639d", func := "annalist/annalkeep.PruneSteps", spec := "pruneSteps", unfollowed := true, recurses := true, apart := false }
def PruneStepsSaid : Prop := pruneStepsRow.holds Try.pinned (OpenSpec.ofChange pruneStepsSpec)

/-- ITS FALSE NEIGHBOUR: 'it returns false'. Refute it at one input. -/
def pruneStepsWrong : ChangeSpec := { name := "pruneSteps", fn := fun _ => fun
  | [d1, d2, d3] => { results := [.lit (.bool false)], args := [d1, d2, d3] }
  | _ => none }
def PruneStepsWrongFalsely : Prop := pruneStepsRow.holds Try.pinned (OpenSpec.ofChange pruneStepsWrong)

/-- 'annalkeep.GrowOrders': WHATEVER THE INPUT: true; the input reads as it did. -/
def growOrdersSpec : ChangeSpec := { name := "growOrders", fn := fun _ => fun
  | [d1, d2, d3] => { results := [.lit (.bool true)], args := [d1, d2, d3] }
  | _ => none }
def growOrdersRow : OpenClaim := { program := "ytcmkdoahkncakaa", sum := "585a68d14d051feffd83a85bf3abb2fc8386df3a21ee594c8f8413ac7078639d", func := "annalist/annalkeep.GrowOrders", spec := "growOrders", inPlace := ["slices.overlaps[annalist/api.Elem]", "slices.overlaps[int]", "slices.overlaps[annalist/api.Spot]"], unfollowed := true, recurses := true, apart := false }
def GrowOrdersSaid : Prop := growOrdersRow.holds Try.pinned (OpenSpec.ofChange growOrdersSpec)

/-- ITS FALSE NEIGHBOUR: 'it returns false'. Refute it at one input. -/
def growOrdersWrong : ChangeSpec := { name := "growOrders", fn := fun _ => fun
  | [d1, d2, d3] => { results := [.lit (.bool false)], args := [d1, d2, d3] }
  | _ => none }
def GrowOrdersWrongFalsely : Prop := growOrdersRow.holds Try.pinned (OpenSpec.ofChange growOrdersWrong)

/-- 'annalkeep.TreeEmpty': WHATEVER THE INPUT: true; the input reads as it did. -/
def treeEmptySpec : ChangeSpec := { name := "treeEmpty", fn := fun _ => fun
  | [d1, d2] => { results := [.lit (.bool true)], args := [d1, d2] }
  | _ => none }
def treeEmptyRow : OpenClaim := { program := "ytcmkdoahkncakaa", sum := "585a68d14d051feffd83a85bf3abb2fc8386df3a21ee594c8f8413ac7078639d", func := "annalist/annalkeep.TreeEmpty", spec := "treeEmpty", inPlace := ["slices.overlaps[annalist/api.Elem]", "slices.overlaps[int]", "slices.overlaps[annalist/api.Spot]"], unfollowed := true, recurses := true, apart := false }
def TreeEmptySaid : Prop := treeEmptyRow.holds Try.pinned (OpenSpec.ofChange treeEmptySpec)

/-- ITS FALSE NEIGHBOUR: 'it returns false'. Refute it at one input. -/
def treeEmptyWrong : ChangeSpec := { name := "treeEmpty", fn := fun _ => fun
  | [d1, d2] => { results := [.lit (.bool false)], args := [d1, d2] }
  | _ => none }
def TreeEmptyWrongFalsely : Prop := treeEmptyRow.holds Try.pinned (OpenSpec.ofChange treeEmptyWrong)

/-- 'annalkeep.GrowMany': WHATEVER THE INPUT: true; the input reads as it did. -/
def growManySpec : ChangeSpec := { name := "growMany", fn := fun _ => fun
  | [d1, d2] => { results := [.lit (.bool true)], args := [d1, d2] }
  | _ => none }
def growManyRow : OpenClaim := { program := "ytcmkdoahkncakaa", sum := "585a68d14d051feffd83a85bf3abb2fc8386df3a21ee594c8f8413ac7078639d", func := "annalist/annalkeep.GrowMany", spec := "growMany", inPlace := ["slices.overlaps[annalist/api.Elem]", "slices.overlaps[int]", "slices.overlaps[annalist/api.Spot]"], unfollowed := true, recurses := true, apart := false }
def GrowManySaid : Prop := growManyRow.holds Try.pinned (OpenSpec.ofChange growManySpec)

/-- ITS FALSE NEIGHBOUR: 'it returns false'. Refute it at one input. -/
def growManyWrong : ChangeSpec := { name := "growMany", fn := fun _ => fun
  | [d1, d2] => { results := [.lit (.bool false)], args := [d1, d2] }
  | _ => none }
def GrowManyWrongFalsely : Prop := growManyRow.holds Try.pinned (OpenSpec.ofChange growManyWrong)

/-- 'annalkeep.TreeFull': WHATEVER THE INPUT: true; the input reads as it did. -/
def treeFullSpec : ChangeSpec := { name := "treeFull", fn := fun _ => fun
  | [d] => { results := [.lit (.bool true)], args := [d] }
  | _ => none }
def treeFullRow : OpenClaim := { program := "ytcmkdoahkncakaa", sum := "585a68d14d051feffd83a85bf3abb2fc8386df3a21ee594c8f8413ac7078639d", func := "annalist/annalkeep.TreeFull", spec := "treeFull", inPlace := ["slices.overlaps[annalist/api.Elem]", "slices.overlaps[int]", "slices.overlaps[annalist/api.Spot]"], unfollowed := true, recurses := true, apart := false }
def TreeFullSaid : Prop := treeFullRow.holds Try.pinned (OpenSpec.ofChange treeFullSpec)

/-- ITS FALSE NEIGHBOUR: 'it returns false'. Refute it at one input. -/
def treeFullWrong : ChangeSpec := { name := "treeFull", fn := fun _ => fun
  | [d] => { results := [.lit (.bool false)], args := [d] }
  | _ => none }
def TreeFullWrongFalsely : Prop := treeFullRow.holds Try.pinned (OpenSpec.ofChange treeFullWrong)

/-- 'annalkeep.GrowShrinks': WHATEVER THE INPUT: true; the input reads as it did. -/
def growShrinksSpec : ChangeSpec := { name := "growShrinks", fn := fun _ => fun
  | [d1, d2, d3] => { results := [.lit (.bool true)], args := [d1, d2, d3] }
  | _ => none }
def growShrinksRow : OpenClaim := { program := "ytcmkdoahkncakaa", sum := "585a68d14d051feffd83a85bf3abb2fc8386df3a21ee594c8f8413ac7078639d", func := "annalist/annalkeep.GrowShrinks", spec := "growShrinks", inPlace := ["slices.overlaps[annalist/api.Elem]", "slices.overlaps[int]", "slices.overlaps[annalist/api.Spot]"], unfollowed := true, recurses := true, apart := false }
def GrowShrinksSaid : Prop := growShrinksRow.holds Try.pinned (OpenSpec.ofChange growShrinksSpec)

/-- ITS FALSE NEIGHBOUR: 'it returns false'. Refute it at one input. -/
def growShrinksWrong : ChangeSpec := { name := "growShrinks", fn := fun _ => fun
  | [d1, d2, d3] => { results := [.lit (.bool false)], args := [d1, d2, d3] }
  | _ => none }
def GrowShrinksWrongFalsely : Prop := growShrinksRow.holds Try.pinned (OpenSpec.ofChange growShrinksWrong)

/-- 'annalkeep.WritePast': WHATEVER THE INPUT: true; the input reads as it did. -/
def writePastSpec : ChangeSpec := { name := "writePast", fn := fun _ => fun
  | [d1, d2, d3, d4, d5, d6] => { results := [.lit (.bool true)], args := [d1, d2, d3, d4, d5, d6] }
  | _ => none }
def writePastRow : OpenClaim := { program := "ytcmkdoahkncakaa", sum := "585a68d14d051feffd83a85bf3abb2fc8386df3a21ee594c8f8413ac7078639d", func := "annalist/annalkeep.WritePast", spec := "writePast", inPlace := ["slices.overlaps[annalist/api.Elem]", "slices.overlaps[int]", "slices.overlaps[annalist/api.Spot]"], unfollowed := true, recurses := true, apart := false }
def WritePastSaid : Prop := writePastRow.holds Try.pinned (OpenSpec.ofChange writePastSpec)

/-- ITS FALSE NEIGHBOUR: 'it returns false'. Refute it at one input. -/
def writePastWrong : ChangeSpec := { name := "writePast", fn := fun _ => fun
  | [d1, d2, d3, d4, d5, d6] => { results := [.lit (.bool false)], args := [d1, d2, d3, d4, d5, d6] }
  | _ => none }
def WritePastWrongFalsely : Prop := writePastRow.holds Try.pinned (OpenSpec.ofChange writePastWrong)

/-- 'annalkeep.WriteSame': WHATEVER THE INPUT: true; the input reads as it did. -/
def writeSameSpec : ChangeSpec := { name := "writeSame", fn := fun _ => fun
  | [d1, d2, d3, d4] => { results := [.lit (.bool true)], args := [d1, d2, d3, d4] }
  | _ => none }
def writeSameRow : OpenClaim := { program := "ytcmkdoahkncakaa", sum := "585a68d14d051feffd83a85bf3abb2fc8386df3a21ee594c8f8413ac7078639d", func := "annalist/annalkeep.WriteSame", spec := "writeSame", inPlace := ["slices.overlaps[annalist/api.Elem]", "slices.overlaps[int]", "slices.overlaps[annalist/api.Spot]"], unfollowed := true, recurses := true, apart := false }
def WriteSameSaid : Prop := writeSameRow.holds Try.pinned (OpenSpec.ofChange writeSameSpec)

/-- ITS FALSE NEIGHBOUR: 'it returns false'. Refute it at one input. -/
def writeSameWrong : ChangeSpec := { name := "writeSame", fn := fun _ => fun
  | [d1, d2, d3, d4] => { results := [.lit (.bool false)], args := [d1, d2, d3, d4] }
  | _ => none }
def WriteSameWrongFalsely : Prop := writeSameRow.holds Try.pinned (OpenSpec.ofChange writeSameWrong)

/- THE SECOND FORM. 'bulk': how many values and letters a reading holds, each counted each time it is reached (what is shared counts as often as it is met; a slice's spare places count too). A statement '..UptoSaid' is the law's where the arguments, and the package variables that the reading takes, are together of bulk at most 1048576: NARROWER than '..Said'. Prove '..Said' where nothing that the law and all that it calls make is longer than what came in: it says more and counts as full. Else prove '..UptoSaid'. A law counts once. -/
mutual
def uptoBulk {H : Type} : DataW H → Nat
  | .lit (.string bytes) => bytes.length + 1
  | .lit _ => 1
  | .nil => 1
  | .ptr d => uptoBulk d + 1
  | .slice elems spare => uptoBulkAll elems + uptoBulkAll spare + 1
  | .agg parts => uptoBulkAll parts + 1
  | .iface _ d => uptoBulk d + 1
  | .map entries => uptoBulkEntries entries + 1
  | .held _ => 1
def uptoBulkAll {H : Type} : List (DataW H) → Nat
  | [] => 0
  | d :: r => uptoBulk d + uptoBulkAll r
def uptoBulkEntries {H : Type} : List (Lit × DataW H) → Nat
  | [] => 0
  | x :: r => uptoBulkEntry x + uptoBulkEntries r
def uptoBulkEntry {H : Type} : Lit × DataW H → Nat
  | (.string bytes, d) => bytes.length + uptoBulk d + 1
  | (_, d) => uptoBulk d + 1
 end
def uptoSmall : (H : Type) → List (DataW H) → Bool := fun _ ds => decide (uptoBulkAll ds ≤ 1048576)
def OpenSpec.upto (s : _root_.Go.ChangeSpec) : _root_.Go.OpenSpec := { _root_.Go.OpenSpec.ofChange s with cond := some uptoSmall }

/-- 'annalkeep.GrowSets', WHERE WHAT IT READS IS OF BULK AT MOST 1048576: true; the input reads as it did. -/
def growSetsUptoRow : OpenClaim := { program := "ytcmkdoahkncakaa", sum := "585a68d14d051feffd83a85bf3abb2fc8386df3a21ee594c8f8413ac7078639d", func := "annalist/annalkeep.GrowSets", spec := "growSets", unfollowed := true, recurses := true, apart := false, narrowed := true }
def GrowSetsUptoSaid : Prop := growSetsUptoRow.holds Try.pinned (OpenSpec.upto growSetsSpec)

/-- 'annalkeep.ShrinkSome', WHERE WHAT IT READS IS OF BULK AT MOST 1048576: true; the input reads as it did. -/
def shrinkSomeUptoRow : OpenClaim := { program := "ytcmkdoahkncakaa", sum := "585a68d14d051feffd83a85bf3abb2fc8386df3a21ee594c8f8413ac7078639d", func := "annalist/annalkeep.ShrinkSome", spec := "shrinkSome", unfollowed := true, recurses := true, apart := false, narrowed := true }
def ShrinkSomeUptoSaid : Prop := shrinkSomeUptoRow.holds Try.pinned (OpenSpec.upto shrinkSomeSpec)

/-- 'annalkeep.ShrinkAll', WHERE WHAT IT READS IS OF BULK AT MOST 1048576: true; the input reads as it did. -/
def shrinkAllUptoRow : OpenClaim := { program := "ytcmkdoahkncakaa", sum := "585a68d14d051feffd83a85bf3abb2fc8386df3a21ee594c8f8413ac7078639d", func := "annalist/annalkeep.ShrinkAll", spec := "shrinkAll", unfollowed := true, recurses := true, apart := false, narrowed := true }
def ShrinkAllUptoSaid : Prop := shrinkAllUptoRow.holds Try.pinned (OpenSpec.upto shrinkAllSpec)

/-- 'annalkeep.PruneSteps', WHERE WHAT IT READS IS OF BULK AT MOST 1048576: true; the input reads as it did. -/
def pruneStepsUptoRow : OpenClaim := { program := "ytcmkdoahkncakaa", sum := "585a68d14d051feffd83a85bf3abb2fc8386df3a21ee594c8f8413ac7078639d", func := "annalist/annalkeep.PruneSteps", spec := "pruneSteps", unfollowed := true, recurses := true, apart := false, narrowed := true }
def PruneStepsUptoSaid : Prop := pruneStepsUptoRow.holds Try.pinned (OpenSpec.upto pruneStepsSpec)

/-- 'annalkeep.GrowOrders', WHERE WHAT IT READS IS OF BULK AT MOST 1048576: true; the input reads as it did. -/
def growOrdersUptoRow : OpenClaim := { program := "ytcmkdoahkncakaa", sum := "585a68d14d051feffd83a85bf3abb2fc8386df3a21ee594c8f8413ac7078639d", func := "annalist/annalkeep.GrowOrders", spec := "growOrders", inPlace := ["slices.overlaps[annalist/api.Elem]", "slices.overlaps[int]", "slices.overlaps[annalist/api.Spot]"], unfollowed := true, recurses := true, apart := false, narrowed := true }
def GrowOrdersUptoSaid : Prop := growOrdersUptoRow.holds Try.pinned (OpenSpec.upto growOrdersSpec)

/-- 'annalkeep.TreeEmpty', WHERE WHAT IT READS IS OF BULK AT MOST 1048576: true; the input reads as it did. -/
def treeEmptyUptoRow : OpenClaim := { program := "ytcmkdoahkncakaa", sum := "585a68d14d051feffd83a85bf3abb2fc8386df3a21ee594c8f8413ac7078639d", func := "annalist/annalkeep.TreeEmpty", spec := "treeEmpty", inPlace := ["slices.overlaps[annalist/api.Elem]", "slices.overlaps[int]", "slices.overlaps[annalist/api.Spot]"], unfollowed := true, recurses := true, apart := false, narrowed := true }
def TreeEmptyUptoSaid : Prop := treeEmptyUptoRow.holds Try.pinned (OpenSpec.upto treeEmptySpec)

/-- 'annalkeep.GrowMany', WHERE WHAT IT READS IS OF BULK AT MOST 1048576: true; the input reads as it did. -/
def growManyUptoRow : OpenClaim := { program := "ytcmkdoahkncakaa", sum := "585a68d14d051feffd83a85bf3abb2fc8386df3a21ee594c8f8413ac7078639d", func := "annalist/annalkeep.GrowMany", spec := "growMany", inPlace := ["slices.overlaps[annalist/api.Elem]", "slices.overlaps[int]", "slices.overlaps[annalist/api.Spot]"], unfollowed := true, recurses := true, apart := false, narrowed := true }
def GrowManyUptoSaid : Prop := growManyUptoRow.holds Try.pinned (OpenSpec.upto growManySpec)

/-- 'annalkeep.TreeFull', WHERE WHAT IT READS IS OF BULK AT MOST 1048576: true; the input reads as it did. -/
def treeFullUptoRow : OpenClaim := { program := "ytcmkdoahkncakaa", sum := "585a68d14d051feffd83a85bf3abb2fc8386df3a21ee594c8f8413ac7078639d", func := "annalist/annalkeep.TreeFull", spec := "treeFull", inPlace := ["slices.overlaps[annalist/api.Elem]", "slices.overlaps[int]", "slices.overlaps[annalist/api.Spot]"], unfollowed := true, recurses := true, apart := false, narrowed := true }
def TreeFullUptoSaid : Prop := treeFullUptoRow.holds Try.pinned (OpenSpec.upto treeFullSpec)

/-- 'annalkeep.GrowShrinks', WHERE WHAT IT READS IS OF BULK AT MOST 1048576: true; the input reads as it did. -/
def growShrinksUptoRow : OpenClaim := { program := "ytcmkdoahkncakaa", sum := "585a68d14d051feffd83a85bf3abb2fc8386df3a21ee594c8f8413ac7078639d", func := "annalist/annalkeep.GrowShrinks", spec := "growShrinks", inPlace := ["slices.overlaps[annalist/api.Elem]", "slices.overlaps[int]", "slices.overlaps[annalist/api.Spot]"], unfollowed := true, recurses := true, apart := false, narrowed := true }
def GrowShrinksUptoSaid : Prop := growShrinksUptoRow.holds Try.pinned (OpenSpec.upto growShrinksSpec)

/-- 'annalkeep.WritePast', WHERE WHAT IT READS IS OF BULK AT MOST 1048576: true; the input reads as it did. -/
def writePastUptoRow : OpenClaim := { program := "ytcmkdoahkncakaa", sum := "585a68d14d051feffd83a85bf3abb2fc8386df3a21ee594c8f8413ac7078639d", func := "annalist/annalkeep.WritePast", spec := "writePast", inPlace := ["slices.overlaps[annalist/api.Elem]", "slices.overlaps[int]", "slices.overlaps[annalist/api.Spot]"], unfollowed := true, recurses := true, apart := false, narrowed := true }
def WritePastUptoSaid : Prop := writePastUptoRow.holds Try.pinned (OpenSpec.upto writePastSpec)

/-- 'annalkeep.WriteSame', WHERE WHAT IT READS IS OF BULK AT MOST 1048576: true; the input reads as it did. -/
def writeSameUptoRow : OpenClaim := { program := "ytcmkdoahkncakaa", sum := "585a68d14d051feffd83a85bf3abb2fc8386df3a21ee594c8f8413ac7078639d", func := "annalist/annalkeep.WriteSame", spec := "writeSame", inPlace := ["slices.overlaps[annalist/api.Elem]", "slices.overlaps[int]", "slices.overlaps[annalist/api.Spot]"], unfollowed := true, recurses := true, apart := false, narrowed := true }
def WriteSameUptoSaid : Prop := writeSameUptoRow.holds Try.pinned (OpenSpec.upto writeSameSpec)

end Rows
end Go.Proofs.Ytcmkdoahkncakaa
