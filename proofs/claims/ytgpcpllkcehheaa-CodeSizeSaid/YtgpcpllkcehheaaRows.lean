/-
  No cell of these rows narrows 'for every input' (looked for: loops, veiled, ifaces, maps, wideKeys, modest, calm, conditions, laid).
  DERIVED. THE GIVEN ROWS OF THIS SEAT. 18 by the template 'for every input the law returns true; each argument reads behind the call as it read before'; 0 by the template 'total and deterministic' (their statements: YtgpcpllkcehheaaTotals.lean).
  GIVEN WITH THE SEED: the statements are not yours to turn. If you find one false, say at which input.
  Laid BY PROGRAM, IN A SANDBOX (cutbox-rows.mjs): the forced cells as the released guide's own fill.sh prints them over the translation 8e9181914f778a99… (all of the seat's roots in one cut). By AI agents, Wed Nov 11 2026. No macro, syntax, notation, axiom, sorry.
-/
import Derived.Test.YtgpcpllkcehheaaChecked
import GoSem.Claim
import GoSem.ClaimJoined
import GoSem.ClaimMapViews
import Derived.JoinedTies
import Derived.KernelRfl
namespace Go.Proofs.Ytgpcpllkcehheaa
/- THE CELL 'sum', in the pinned program and in every row, IS THE sha256 OF THE DUMP (.gsa) THAT YtgpcpllkcehheaaProg.lean LOADS. Nothing in Lean hashes anything: it is a label: what it is worth is what the hold of that sum in a sandbox is worth. -/
noncomputable def Try.pinned : Pinned := { name := "ytgpcpllkcehheaa", sum := "8e9181914f778a998593eedfc726ab496bd4d6ac3851cd6135a51756f2f8c3d3", checked := Try.checked }
namespace Rows
def none {H : Type} : Left H := { results := [], args := [] }

/-- 'annalkeep.SumBursts': WHATEVER THE INPUT: true; the input reads as it did. -/
def sumBurstsSpec : ChangeSpec := { name := "sumBursts", fn := fun _ => fun
  | [d1, d2, d3] => { results := [.lit (.bool true)], args := [d1, d2, d3] }
  | _ => none }
def sumBurstsRow : OpenClaim := { program := "ytgpcpllkcehheaa", sum := "8e9181914f778a998593eedfc726ab496bd4d6ac3851cd6135a51756f2f8c3d3", func := "annalist/annalkeep.SumBursts", spec := "sumBursts", apart := false }
def SumBurstsSaid : Prop := sumBurstsRow.holds Try.pinned (OpenSpec.ofChange sumBurstsSpec)

/-- ITS FALSE NEIGHBOUR: 'it returns false'. Refute it at one input. -/
def sumBurstsWrong : ChangeSpec := { name := "sumBursts", fn := fun _ => fun
  | [d1, d2, d3] => { results := [.lit (.bool false)], args := [d1, d2, d3] }
  | _ => none }
def SumBurstsWrongFalsely : Prop := sumBurstsRow.holds Try.pinned (OpenSpec.ofChange sumBurstsWrong)

/-- 'annalkeep.SumTogether': WHATEVER THE INPUT: true; the input reads as it did. -/
def sumTogetherSpec : ChangeSpec := { name := "sumTogether", fn := fun _ => fun
  | [d1, d2, d3] => { results := [.lit (.bool true)], args := [d1, d2, d3] }
  | _ => none }
def sumTogetherRow : OpenClaim := { program := "ytgpcpllkcehheaa", sum := "8e9181914f778a998593eedfc726ab496bd4d6ac3851cd6135a51756f2f8c3d3", func := "annalist/annalkeep.SumTogether", spec := "sumTogether", apart := false }
def SumTogetherSaid : Prop := sumTogetherRow.holds Try.pinned (OpenSpec.ofChange sumTogetherSpec)

/-- ITS FALSE NEIGHBOUR: 'it returns false'. Refute it at one input. -/
def sumTogetherWrong : ChangeSpec := { name := "sumTogether", fn := fun _ => fun
  | [d1, d2, d3] => { results := [.lit (.bool false)], args := [d1, d2, d3] }
  | _ => none }
def SumTogetherWrongFalsely : Prop := sumTogetherRow.holds Try.pinned (OpenSpec.ofChange sumTogetherWrong)

/-- 'annalkeep.SumNought': WHATEVER THE INPUT: true; the input reads as it did. -/
def sumNoughtSpec : ChangeSpec := { name := "sumNought", fn := fun _ => fun
  | [d] => { results := [.lit (.bool true)], args := [d] }
  | _ => none }
def sumNoughtRow : OpenClaim := { program := "ytgpcpllkcehheaa", sum := "8e9181914f778a998593eedfc726ab496bd4d6ac3851cd6135a51756f2f8c3d3", func := "annalist/annalkeep.SumNought", spec := "sumNought", apart := false }
def SumNoughtSaid : Prop := sumNoughtRow.holds Try.pinned (OpenSpec.ofChange sumNoughtSpec)

/-- ITS FALSE NEIGHBOUR: 'it returns false'. Refute it at one input. -/
def sumNoughtWrong : ChangeSpec := { name := "sumNought", fn := fun _ => fun
  | [d] => { results := [.lit (.bool false)], args := [d] }
  | _ => none }
def SumNoughtWrongFalsely : Prop := sumNoughtRow.holds Try.pinned (OpenSpec.ofChange sumNoughtWrong)

/-- 'annalkeep.ElemTimes': WHATEVER THE INPUT: true; the input reads as it did. -/
def elemTimesSpec : ChangeSpec := { name := "elemTimes", fn := fun _ => fun
  | [d1, d2] => { results := [.lit (.bool true)], args := [d1, d2] }
  | _ => none }
def elemTimesRow : OpenClaim := { program := "ytgpcpllkcehheaa", sum := "8e9181914f778a998593eedfc726ab496bd4d6ac3851cd6135a51756f2f8c3d3", func := "annalist/annalkeep.ElemTimes", spec := "elemTimes", apart := false }
def ElemTimesSaid : Prop := elemTimesRow.holds Try.pinned (OpenSpec.ofChange elemTimesSpec)

/-- ITS FALSE NEIGHBOUR: 'it returns false'. Refute it at one input. -/
def elemTimesWrong : ChangeSpec := { name := "elemTimes", fn := fun _ => fun
  | [d1, d2] => { results := [.lit (.bool false)], args := [d1, d2] }
  | _ => none }
def ElemTimesWrongFalsely : Prop := elemTimesRow.holds Try.pinned (OpenSpec.ofChange elemTimesWrong)

/-- 'annalkeep.KeyOrders': WHATEVER THE INPUT: true; the input reads as it did. -/
def keyOrdersSpec : ChangeSpec := { name := "keyOrders", fn := fun _ => fun
  | [d1, d2, d3] => { results := [.lit (.bool true)], args := [d1, d2, d3] }
  | _ => none }
def keyOrdersRow : OpenClaim := { program := "ytgpcpllkcehheaa", sum := "8e9181914f778a998593eedfc726ab496bd4d6ac3851cd6135a51756f2f8c3d3", func := "annalist/annalkeep.KeyOrders", spec := "keyOrders", apart := false }
def KeyOrdersSaid : Prop := keyOrdersRow.holds Try.pinned (OpenSpec.ofChange keyOrdersSpec)

/-- ITS FALSE NEIGHBOUR: 'it returns false'. Refute it at one input. -/
def keyOrdersWrong : ChangeSpec := { name := "keyOrders", fn := fun _ => fun
  | [d1, d2, d3] => { results := [.lit (.bool false)], args := [d1, d2, d3] }
  | _ => none }
def KeyOrdersWrongFalsely : Prop := keyOrdersRow.holds Try.pinned (OpenSpec.ofChange keyOrdersWrong)

/-- 'annalkeep.FrameBack': WHATEVER THE INPUT: true; the input reads as it did. -/
def frameBackSpec : ChangeSpec := { name := "frameBack", fn := fun _ => fun
  | [d1, d2, d3] => { results := [.lit (.bool true)], args := [d1, d2, d3] }
  | _ => none }
def frameBackRow : OpenClaim := { program := "ytgpcpllkcehheaa", sum := "8e9181914f778a998593eedfc726ab496bd4d6ac3851cd6135a51756f2f8c3d3", func := "annalist/annalkeep.FrameBack", spec := "frameBack", apart := false }
def FrameBackSaid : Prop := frameBackRow.holds Try.pinned (OpenSpec.ofChange frameBackSpec)

/-- ITS FALSE NEIGHBOUR: 'it returns false'. Refute it at one input. -/
def frameBackWrong : ChangeSpec := { name := "frameBack", fn := fun _ => fun
  | [d1, d2, d3] => { results := [.lit (.bool false)], args := [d1, d2, d3] }
  | _ => none }
def FrameBackWrongFalsely : Prop := frameBackRow.holds Try.pinned (OpenSpec.ofChange frameBackWrong)

/-- 'annalkeep.FrameBursts': WHATEVER THE INPUT: true; the input reads as it did. -/
def frameBurstsSpec : ChangeSpec := { name := "frameBursts", fn := fun _ => fun
  | [d1, d2, d3] => { results := [.lit (.bool true)], args := [d1, d2, d3] }
  | _ => none }
def frameBurstsRow : OpenClaim := { program := "ytgpcpllkcehheaa", sum := "8e9181914f778a998593eedfc726ab496bd4d6ac3851cd6135a51756f2f8c3d3", func := "annalist/annalkeep.FrameBursts", spec := "frameBursts", apart := false }
def FrameBurstsSaid : Prop := frameBurstsRow.holds Try.pinned (OpenSpec.ofChange frameBurstsSpec)

/-- ITS FALSE NEIGHBOUR: 'it returns false'. Refute it at one input. -/
def frameBurstsWrong : ChangeSpec := { name := "frameBursts", fn := fun _ => fun
  | [d1, d2, d3] => { results := [.lit (.bool false)], args := [d1, d2, d3] }
  | _ => none }
def FrameBurstsWrongFalsely : Prop := frameBurstsRow.holds Try.pinned (OpenSpec.ofChange frameBurstsWrong)

/-- 'annalkeep.FrameOne': WHATEVER THE INPUT: true; the input reads as it did. -/
def frameOneSpec : ChangeSpec := { name := "frameOne", fn := fun _ => fun
  | [d] => { results := [.lit (.bool true)], args := [d] }
  | _ => none }
def frameOneRow : OpenClaim := { program := "ytgpcpllkcehheaa", sum := "8e9181914f778a998593eedfc726ab496bd4d6ac3851cd6135a51756f2f8c3d3", func := "annalist/annalkeep.FrameOne", spec := "frameOne", apart := false }
def FrameOneSaid : Prop := frameOneRow.holds Try.pinned (OpenSpec.ofChange frameOneSpec)

/-- ITS FALSE NEIGHBOUR: 'it returns false'. Refute it at one input. -/
def frameOneWrong : ChangeSpec := { name := "frameOne", fn := fun _ => fun
  | [d] => { results := [.lit (.bool false)], args := [d] }
  | _ => none }
def FrameOneWrongFalsely : Prop := frameOneRow.holds Try.pinned (OpenSpec.ofChange frameOneWrong)

/-- 'annalkeep.FrameRow': WHATEVER THE INPUT: true; the input reads as it did. -/
def frameRowSpec : ChangeSpec := { name := "frameRow", fn := fun _ => fun
  | [d1, d2, d3] => { results := [.lit (.bool true)], args := [d1, d2, d3] }
  | _ => none }
def frameRowRow : OpenClaim := { program := "ytgpcpllkcehheaa", sum := "8e9181914f778a998593eedfc726ab496bd4d6ac3851cd6135a51756f2f8c3d3", func := "annalist/annalkeep.FrameRow", spec := "frameRow", apart := false }
def FrameRowSaid : Prop := frameRowRow.holds Try.pinned (OpenSpec.ofChange frameRowSpec)

/-- ITS FALSE NEIGHBOUR: 'it returns false'. Refute it at one input. -/
def frameRowWrong : ChangeSpec := { name := "frameRow", fn := fun _ => fun
  | [d1, d2, d3] => { results := [.lit (.bool false)], args := [d1, d2, d3] }
  | _ => none }
def FrameRowWrongFalsely : Prop := frameRowRow.holds Try.pinned (OpenSpec.ofChange frameRowWrong)

/-- 'annalkeep.CodeOne': WHATEVER THE INPUT: true; the input reads as it did. -/
def codeOneSpec : ChangeSpec := { name := "codeOne", fn := fun _ => fun
  | [d] => { results := [.lit (.bool true)], args := [d] }
  | _ => none }
def codeOneRow : OpenClaim := { program := "ytgpcpllkcehheaa", sum := "8e9181914f778a998593eedfc726ab496bd4d6ac3851cd6135a51756f2f8c3d3", func := "annalist/annalkeep.CodeOne", spec := "codeOne", unfollowed := true, recurses := true, apart := false }
def CodeOneSaid : Prop := codeOneRow.holds Try.pinned (OpenSpec.ofChange codeOneSpec)

/-- ITS FALSE NEIGHBOUR: 'it returns false'. Refute it at one input. -/
def codeOneWrong : ChangeSpec := { name := "codeOne", fn := fun _ => fun
  | [d] => { results := [.lit (.bool false)], args := [d] }
  | _ => none }
def CodeOneWrongFalsely : Prop := codeOneRow.holds Try.pinned (OpenSpec.ofChange codeOneWrong)

/-- 'annalkeep.CodeOrders': WHATEVER THE INPUT: true; the input reads as it did. -/
def codeOrdersSpec : ChangeSpec := { name := "codeOrders", fn := fun _ => fun
  | [d1, d2] => { results := [.lit (.bool true)], args := [d1, d2] }
  | _ => none }
def codeOrdersRow : OpenClaim := { program := "ytgpcpllkcehheaa", sum := "8e9181914f778a998593eedfc726ab496bd4d6ac3851cd6135a51756f2f8c3d3", func := "annalist/annalkeep.CodeOrders", spec := "codeOrders", inPlace := ["internal/bytealg.abigen_runtime_cmpstring"], apart := false }
def CodeOrdersSaid : Prop := codeOrdersRow.holds Try.pinned (OpenSpec.ofChange codeOrdersSpec)

/-- ITS FALSE NEIGHBOUR: 'it returns false'. Refute it at one input. -/
def codeOrdersWrong : ChangeSpec := { name := "codeOrders", fn := fun _ => fun
  | [d1, d2] => { results := [.lit (.bool false)], args := [d1, d2] }
  | _ => none }
def CodeOrdersWrongFalsely : Prop := codeOrdersRow.holds Try.pinned (OpenSpec.ofChange codeOrdersWrong)

/-- 'annalkeep.CodeBack': WHATEVER THE INPUT: true; the input reads as it did. -/
def codeBackSpec : ChangeSpec := { name := "codeBack", fn := fun _ => fun
  | [d1, d2, d3, d4] => { results := [.lit (.bool true)], args := [d1, d2, d3, d4] }
  | _ => none }
def codeBackRow : OpenClaim := { program := "ytgpcpllkcehheaa", sum := "8e9181914f778a998593eedfc726ab496bd4d6ac3851cd6135a51756f2f8c3d3", func := "annalist/annalkeep.CodeBack", spec := "codeBack", unfollowed := true, recurses := true, apart := false }
def CodeBackSaid : Prop := codeBackRow.holds Try.pinned (OpenSpec.ofChange codeBackSpec)

/-- ITS FALSE NEIGHBOUR: 'it returns false'. Refute it at one input. -/
def codeBackWrong : ChangeSpec := { name := "codeBack", fn := fun _ => fun
  | [d1, d2, d3, d4] => { results := [.lit (.bool false)], args := [d1, d2, d3, d4] }
  | _ => none }
def CodeBackWrongFalsely : Prop := codeBackRow.holds Try.pinned (OpenSpec.ofChange codeBackWrong)

/-- 'annalkeep.CodeSize': WHATEVER THE INPUT: true; the input reads as it did. -/
def codeSizeSpec : ChangeSpec := { name := "codeSize", fn := fun _ => fun
  | [d] => { results := [.lit (.bool true)], args := [d] }
  | _ => none }
def codeSizeRow : OpenClaim := { program := "ytgpcpllkcehheaa", sum := "8e9181914f778a998593eedfc726ab496bd4d6ac3851cd6135a51756f2f8c3d3", func := "annalist/annalkeep.CodeSize", spec := "codeSize", unfollowed := true, recurses := true, apart := false }
def CodeSizeSaid : Prop := codeSizeRow.holds Try.pinned (OpenSpec.ofChange codeSizeSpec)

/-- ITS FALSE NEIGHBOUR: 'it returns false'. Refute it at one input. -/
def codeSizeWrong : ChangeSpec := { name := "codeSize", fn := fun _ => fun
  | [d] => { results := [.lit (.bool false)], args := [d] }
  | _ => none }
def CodeSizeWrongFalsely : Prop := codeSizeRow.holds Try.pinned (OpenSpec.ofChange codeSizeWrong)

/-- 'annalkeep.NodeGreat': WHATEVER THE INPUT: true; the input reads as it did. -/
def nodeGreatSpec : ChangeSpec := { name := "nodeGreat", fn := fun _ => fun
  | [d] => { results := [.lit (.bool true)], args := [d] }
  | _ => none }
def nodeGreatRow : OpenClaim := { program := "ytgpcpllkcehheaa", sum := "8e9181914f778a998593eedfc726ab496bd4d6ac3851cd6135a51756f2f8c3d3", func := "annalist/annalkeep.NodeGreat", spec := "nodeGreat", apart := false }
def NodeGreatSaid : Prop := nodeGreatRow.holds Try.pinned (OpenSpec.ofChange nodeGreatSpec)

/-- ITS FALSE NEIGHBOUR: 'it returns false'. Refute it at one input. -/
def nodeGreatWrong : ChangeSpec := { name := "nodeGreat", fn := fun _ => fun
  | [d] => { results := [.lit (.bool false)], args := [d] }
  | _ => none }
def NodeGreatWrongFalsely : Prop := nodeGreatRow.holds Try.pinned (OpenSpec.ofChange nodeGreatWrong)

/-- 'annalkeep.NodeWays': WHATEVER THE INPUT: true; the input reads as it did. -/
def nodeWaysSpec : ChangeSpec := { name := "nodeWays", fn := fun _ => fun
  | [d1, d2, d3] => { results := [.lit (.bool true)], args := [d1, d2, d3] }
  | _ => none }
def nodeWaysRow : OpenClaim := { program := "ytgpcpllkcehheaa", sum := "8e9181914f778a998593eedfc726ab496bd4d6ac3851cd6135a51756f2f8c3d3", func := "annalist/annalkeep.NodeWays", spec := "nodeWays", apart := false }
def NodeWaysSaid : Prop := nodeWaysRow.holds Try.pinned (OpenSpec.ofChange nodeWaysSpec)

/-- ITS FALSE NEIGHBOUR: 'it returns false'. Refute it at one input. -/
def nodeWaysWrong : ChangeSpec := { name := "nodeWays", fn := fun _ => fun
  | [d1, d2, d3] => { results := [.lit (.bool false)], args := [d1, d2, d3] }
  | _ => none }
def NodeWaysWrongFalsely : Prop := nodeWaysRow.holds Try.pinned (OpenSpec.ofChange nodeWaysWrong)

/-- 'annalkeep.PageApart': WHATEVER THE INPUT: true; the input reads as it did. -/
def pageApartSpec : ChangeSpec := { name := "pageApart", fn := fun _ => fun
  | [d1, d2] => { results := [.lit (.bool true)], args := [d1, d2] }
  | _ => none }
def pageApartRow : OpenClaim := { program := "ytgpcpllkcehheaa", sum := "8e9181914f778a998593eedfc726ab496bd4d6ac3851cd6135a51756f2f8c3d3", func := "annalist/annalkeep.PageApart", spec := "pageApart", apart := false }
def PageApartSaid : Prop := pageApartRow.holds Try.pinned (OpenSpec.ofChange pageApartSpec)

/-- ITS FALSE NEIGHBOUR: 'it returns false'. Refute it at one input. -/
def pageApartWrong : ChangeSpec := { name := "pageApart", fn := fun _ => fun
  | [d1, d2] => { results := [.lit (.bool false)], args := [d1, d2] }
  | _ => none }
def PageApartWrongFalsely : Prop := pageApartRow.holds Try.pinned (OpenSpec.ofChange pageApartWrong)

/-- 'annalkeep.PageBack': WHATEVER THE INPUT: true; the input reads as it did. -/
def pageBackSpec : ChangeSpec := { name := "pageBack", fn := fun _ => fun
  | [d1, d2] => { results := [.lit (.bool true)], args := [d1, d2] }
  | _ => none }
def pageBackRow : OpenClaim := { program := "ytgpcpllkcehheaa", sum := "8e9181914f778a998593eedfc726ab496bd4d6ac3851cd6135a51756f2f8c3d3", func := "annalist/annalkeep.PageBack", spec := "pageBack", unfollowed := true, recurses := true, apart := false }
def PageBackSaid : Prop := pageBackRow.holds Try.pinned (OpenSpec.ofChange pageBackSpec)

/-- ITS FALSE NEIGHBOUR: 'it returns false'. Refute it at one input. -/
def pageBackWrong : ChangeSpec := { name := "pageBack", fn := fun _ => fun
  | [d1, d2] => { results := [.lit (.bool false)], args := [d1, d2] }
  | _ => none }
def PageBackWrongFalsely : Prop := pageBackRow.holds Try.pinned (OpenSpec.ofChange pageBackWrong)

/-- 'annalkeep.PageOne': WHATEVER THE INPUT: true; the input reads as it did. -/
def pageOneSpec : ChangeSpec := { name := "pageOne", fn := fun _ => fun
  | [d] => { results := [.lit (.bool true)], args := [d] }
  | _ => none }
def pageOneRow : OpenClaim := { program := "ytgpcpllkcehheaa", sum := "8e9181914f778a998593eedfc726ab496bd4d6ac3851cd6135a51756f2f8c3d3", func := "annalist/annalkeep.PageOne", spec := "pageOne", unfollowed := true, recurses := true, apart := false }
def PageOneSaid : Prop := pageOneRow.holds Try.pinned (OpenSpec.ofChange pageOneSpec)

/-- ITS FALSE NEIGHBOUR: 'it returns false'. Refute it at one input. -/
def pageOneWrong : ChangeSpec := { name := "pageOne", fn := fun _ => fun
  | [d] => { results := [.lit (.bool false)], args := [d] }
  | _ => none }
def PageOneWrongFalsely : Prop := pageOneRow.holds Try.pinned (OpenSpec.ofChange pageOneWrong)

/- THE SECOND FORM. 'bulk': how many values and letters a reading holds, each counted each time it is reached (what is shared counts as often as it is met; a slice's spare places count too). A statement '..UptoSaid' is the law's where the arguments, and the package variables that the reading takes, are together of bulk at most 1048576: NARROWER than '..Said'. Prove '..Said' where nothing that the law and all that it calls make is longer than what came in: it says more and counts as full. Else prove '..UptoSaid'. A law counts once. -/
mutual
def uptoBulk {H : Type} : DataW H → Nat
  | .lit (.string bytes) => bytes.length + 1
  | .lit _ => 1
  | .nil => 1
  | .ptr d => uptoBulk d + 1
  | .slice elems spare => uptoBulkAll elems + uptoBulkAll spare + 1
  | .agg parts => uptoBulkAll parts + 1
  | .iface _ d => uptoBulk d + 1
  | .map entries => uptoBulkEntries entries + 1
  | .held _ => 1
def uptoBulkAll {H : Type} : List (DataW H) → Nat
  | [] => 0
  | d :: r => uptoBulk d + uptoBulkAll r
def uptoBulkEntries {H : Type} : List (Lit × DataW H) → Nat
  | [] => 0
  | x :: r => uptoBulkEntry x + uptoBulkEntries r
def uptoBulkEntry {H : Type} : Lit × DataW H → Nat
  | (.string bytes, d) => bytes.length + uptoBulk d + 1
  | (_, d) => uptoBulk d + 1
 end
def uptoSmall : (H : Type) → List (DataW H) → Bool := fun _ ds => decide (uptoBulkAll ds ≤ 1048576)
def OpenSpec.upto (s : _root_.Go.ChangeSpec) : _root_.Go.OpenSpec := { _root_.Go.OpenSpec.ofChange s with cond := some uptoSmall }

/-- 'annalkeep.SumBursts', WHERE WHAT IT READS IS OF BULK AT MOST 1048576: true; the input reads as it did. -/
def sumBurstsUptoRow : OpenClaim := { program := "ytgpcpllkcehheaa", sum := "8e9181914f778a998593eedfc726ab496bd4d6ac3851cd6135a51756f2f8c3d3", func := "annalist/annalkeep.SumBursts", spec := "sumBursts", apart := false, narrowed := true }
def SumBurstsUptoSaid : Prop := sumBurstsUptoRow.holds Try.pinned (OpenSpec.upto sumBurstsSpec)

/-- 'annalkeep.SumTogether', WHERE WHAT IT READS IS OF BULK AT MOST 1048576: true; the input reads as it did. -/
def sumTogetherUptoRow : OpenClaim := { program := "ytgpcpllkcehheaa", sum := "8e9181914f778a998593eedfc726ab496bd4d6ac3851cd6135a51756f2f8c3d3", func := "annalist/annalkeep.SumTogether", spec := "sumTogether", apart := false, narrowed := true }
def SumTogetherUptoSaid : Prop := sumTogetherUptoRow.holds Try.pinned (OpenSpec.upto sumTogetherSpec)

/-- 'annalkeep.SumNought', WHERE WHAT IT READS IS OF BULK AT MOST 1048576: true; the input reads as it did. -/
def sumNoughtUptoRow : OpenClaim := { program := "ytgpcpllkcehheaa", sum := "8e9181914f778a998593eedfc726ab496bd4d6ac3851cd6135a51756f2f8c3d3", func := "annalist/annalkeep.SumNought", spec := "sumNought", apart := false, narrowed := true }
def SumNoughtUptoSaid : Prop := sumNoughtUptoRow.holds Try.pinned (OpenSpec.upto sumNoughtSpec)

/-- 'annalkeep.ElemTimes', WHERE WHAT IT READS IS OF BULK AT MOST 1048576: true; the input reads as it did. -/
def elemTimesUptoRow : OpenClaim := { program := "ytgpcpllkcehheaa", sum := "8e9181914f778a998593eedfc726ab496bd4d6ac3851cd6135a51756f2f8c3d3", func := "annalist/annalkeep.ElemTimes", spec := "elemTimes", apart := false, narrowed := true }
def ElemTimesUptoSaid : Prop := elemTimesUptoRow.holds Try.pinned (OpenSpec.upto elemTimesSpec)

/-- 'annalkeep.KeyOrders', WHERE WHAT IT READS IS OF BULK AT MOST 1048576: true; the input reads as it did. -/
def keyOrdersUptoRow : OpenClaim := { program := "ytgpcpllkcehheaa", sum := "8e9181914f778a998593eedfc726ab496bd4d6ac3851cd6135a51756f2f8c3d3", func := "annalist/annalkeep.KeyOrders", spec := "keyOrders", apart := false, narrowed := true }
def KeyOrdersUptoSaid : Prop := keyOrdersUptoRow.holds Try.pinned (OpenSpec.upto keyOrdersSpec)

/-- 'annalkeep.FrameBack', WHERE WHAT IT READS IS OF BULK AT MOST 1048576: true; the input reads as it did. -/
def frameBackUptoRow : OpenClaim := { program := "ytgpcpllkcehheaa", sum := "8e9181914f778a998593eedfc726ab496bd4d6ac3851cd6135a51756f2f8c3d3", func := "annalist/annalkeep.FrameBack", spec := "frameBack", apart := false, narrowed := true }
def FrameBackUptoSaid : Prop := frameBackUptoRow.holds Try.pinned (OpenSpec.upto frameBackSpec)

/-- 'annalkeep.FrameBursts', WHERE WHAT IT READS IS OF BULK AT MOST 1048576: true; the input reads as it did. -/
def frameBurstsUptoRow : OpenClaim := { program := "ytgpcpllkcehheaa", sum := "8e9181914f778a998593eedfc726ab496bd4d6ac3851cd6135a51756f2f8c3d3", func := "annalist/annalkeep.FrameBursts", spec := "frameBursts", apart := false, narrowed := true }
def FrameBurstsUptoSaid : Prop := frameBurstsUptoRow.holds Try.pinned (OpenSpec.upto frameBurstsSpec)

/-- 'annalkeep.FrameOne', WHERE WHAT IT READS IS OF BULK AT MOST 1048576: true; the input reads as it did. -/
def frameOneUptoRow : OpenClaim := { program := "ytgpcpllkcehheaa", sum := "8e9181914f778a998593eedfc726ab496bd4d6ac3851cd6135a51756f2f8c3d3", func := "annalist/annalkeep.FrameOne", spec := "frameOne", apart := false, narrowed := true }
def FrameOneUptoSaid : Prop := frameOneUptoRow.holds Try.pinned (OpenSpec.upto frameOneSpec)

/-- 'annalkeep.FrameRow', WHERE WHAT IT READS IS OF BULK AT MOST 1048576: true; the input reads as it did. -/
def frameRowUptoRow : OpenClaim := { program := "ytgpcpllkcehheaa", sum := "8e9181914f778a998593eedfc726ab496bd4d6ac3851cd6135a51756f2f8c3d3", func := "annalist/annalkeep.FrameRow", spec := "frameRow", apart := false, narrowed := true }
def FrameRowUptoSaid : Prop := frameRowUptoRow.holds Try.pinned (OpenSpec.upto frameRowSpec)

/-- 'annalkeep.CodeOne', WHERE WHAT IT READS IS OF BULK AT MOST 1048576: true; the input reads as it did. -/
def codeOneUptoRow : OpenClaim := { program := "ytgpcpllkcehheaa", sum := "8e9181914f778a998593eedfc726ab496bd4d6ac3851cd6135a51756f2f8c3d3", func := "annalist/annalkeep.CodeOne", spec := "codeOne", unfollowed := true, recurses := true, apart := false, narrowed := true }
def CodeOneUptoSaid : Prop := codeOneUptoRow.holds Try.pinned (OpenSpec.upto codeOneSpec)

/-- 'annalkeep.CodeOrders', WHERE WHAT IT READS IS OF BULK AT MOST 1048576: true; the input reads as it did. -/
def codeOrdersUptoRow : OpenClaim := { program := "ytgpcpllkcehheaa", sum := "8e9181914f778a998593eedfc726ab496bd4d6ac3851cd6135a51756f2f8c3d3", func := "annalist/annalkeep.CodeOrders", spec := "codeOrders", inPlace := ["internal/bytealg.abigen_runtime_cmpstring"], apart := false, narrowed := true }
def CodeOrdersUptoSaid : Prop := codeOrdersUptoRow.holds Try.pinned (OpenSpec.upto codeOrdersSpec)

/-- 'annalkeep.CodeBack', WHERE WHAT IT READS IS OF BULK AT MOST 1048576: true; the input reads as it did. -/
def codeBackUptoRow : OpenClaim := { program := "ytgpcpllkcehheaa", sum := "8e9181914f778a998593eedfc726ab496bd4d6ac3851cd6135a51756f2f8c3d3", func := "annalist/annalkeep.CodeBack", spec := "codeBack", unfollowed := true, recurses := true, apart := false, narrowed := true }
def CodeBackUptoSaid : Prop := codeBackUptoRow.holds Try.pinned (OpenSpec.upto codeBackSpec)

/-- 'annalkeep.CodeSize', WHERE WHAT IT READS IS OF BULK AT MOST 1048576: true; the input reads as it did. -/
def codeSizeUptoRow : OpenClaim := { program := "ytgpcpllkcehheaa", sum := "8e9181914f778a998593eedfc726ab496bd4d6ac3851cd6135a51756f2f8c3d3", func := "annalist/annalkeep.CodeSize", spec := "codeSize", unfollowed := true, recurses := true, apart := false, narrowed := true }
def CodeSizeUptoSaid : Prop := codeSizeUptoRow.holds Try.pinned (OpenSpec.upto codeSizeSpec)

/-- 'annalkeep.NodeGreat', WHERE WHAT IT READS IS OF BULK AT MOST 1048576: true; the input reads as it did. -/
def nodeGreatUptoRow : OpenClaim := { program := "ytgpcpllkcehheaa", sum := "8e9181914f778a998593eedfc726ab496bd4d6ac3851cd6135a51756f2f8c3d3", func := "annalist/annalkeep.NodeGreat", spec := "nodeGreat", apart := false, narrowed := true }
def NodeGreatUptoSaid : Prop := nodeGreatUptoRow.holds Try.pinned (OpenSpec.upto nodeGreatSpec)

/-- 'annalkeep.NodeWays', WHERE WHAT IT READS IS OF BULK AT MOST 1048576: true; the input reads as it did. -/
def nodeWaysUptoRow : OpenClaim := { program := "ytgpcpllkcehheaa", sum := "8e9181914f778a998593eedfc726ab496bd4d6ac3851cd6135a51756f2f8c3d3", func := "annalist/annalkeep.NodeWays", spec := "nodeWays", apart := false, narrowed := true }
def NodeWaysUptoSaid : Prop := nodeWaysUptoRow.holds Try.pinned (OpenSpec.upto nodeWaysSpec)

/-- 'annalkeep.PageApart', WHERE WHAT IT READS IS OF BULK AT MOST 1048576: true; the input reads as it did. -/
def pageApartUptoRow : OpenClaim := { program := "ytgpcpllkcehheaa", sum := "8e9181914f778a998593eedfc726ab496bd4d6ac3851cd6135a51756f2f8c3d3", func := "annalist/annalkeep.PageApart", spec := "pageApart", apart := false, narrowed := true }
def PageApartUptoSaid : Prop := pageApartUptoRow.holds Try.pinned (OpenSpec.upto pageApartSpec)

/-- 'annalkeep.PageBack', WHERE WHAT IT READS IS OF BULK AT MOST 1048576: true; the input reads as it did. -/
def pageBackUptoRow : OpenClaim := { program := "ytgpcpllkcehheaa", sum := "8e9181914f778a998593eedfc726ab496bd4d6ac3851cd6135a51756f2f8c3d3", func := "annalist/annalkeep.PageBack", spec := "pageBack", unfollowed := true, recurses := true, apart := false, narrowed := true }
def PageBackUptoSaid : Prop := pageBackUptoRow.holds Try.pinned (OpenSpec.upto pageBackSpec)

/-- 'annalkeep.PageOne', WHERE WHAT IT READS IS OF BULK AT MOST 1048576: true; the input reads as it did. -/
def pageOneUptoRow : OpenClaim := { program := "ytgpcpllkcehheaa", sum := "8e9181914f778a998593eedfc726ab496bd4d6ac3851cd6135a51756f2f8c3d3", func := "annalist/annalkeep.PageOne", spec := "pageOne", unfollowed := true, recurses := true, apart := false, narrowed := true }
def PageOneUptoSaid : Prop := pageOneUptoRow.holds Try.pinned (OpenSpec.upto pageOneSpec)

end Rows
end Go.Proofs.Ytgpcpllkcehheaa
