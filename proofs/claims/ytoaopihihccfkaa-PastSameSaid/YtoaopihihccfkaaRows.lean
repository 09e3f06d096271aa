/-
  No cell of these rows narrows 'for every input' (looked for: loops, veiled, ifaces, maps, wideKeys, modest, calm, conditions, laid).
  DERIVED. THE GIVEN ROWS OF THIS SEAT. 8 by the template 'for every input the law returns true; each argument reads behind the call as it read before'; 0 by the template 'total and deterministic' (their statements: YtoaopihihccfkaaTotals.lean).
  GIVEN WITH THE SEED: the statements are not yours to turn. If you find one false, say at which input.
  Laid BY PROGRAM, IN A SANDBOX (cutbox-rows.mjs): the forced cells as the released guide's own fill.sh prints them over the translation dee713ed39e8ae2f… (all of the seat's roots in one cut). By AI agents, Wed Nov 11 2026. No macro, syntax, notation, axiom, sorry.
-/
import Derived.Test.YtoaopihihccfkaaChecked
import GoSem.Claim
import GoSem.ClaimJoined
import GoSem.ClaimMapViews
import Derived.JoinedTies
import Derived.KernelRfl
namespace Go.Proofs.Ytoaopihihccfkaa
/- THE CELL 'sum', in the pinned program and in every row, IS THE sha256 OF THE DUMP (.gsa) THAT YtoaopihihccfkaaProg.lean LOADS. Nothing in Lean hashes anything: it is a label: what it is worth is what the hold of that sum in a sandbox is worth. -/
noncomputable def Try.pinned : Pinned := { name := "ytoaopihihccfkaa", sum := "dee713ed39e8ae2f1d47bd8b52667d9ab0ce76bea5c328fd4d983fc58d3d3025", checked := Try.checked }
namespace Rows
def none {H : Type} : Left H := { results := [], args := [] }

/-- 'annalkeep.TreeDeep': WHATEVER THE INPUT: true; the input reads as it did. -/
def treeDeepSpec : ChangeSpec := { name := "treeDeep", fn := fun _ => fun
  | [d] => { results := [.lit (.bool true)], args := [d] }
  | _ => none }
def treeDeepRow : OpenClaim := { program := "ytoaopihihccfkaa", sum := "dee713ed39e8ae2f1d47bd8b52667d9ab0ce76bea5c328fd4d983fc58d3d3025", func := "annalist/annalkeep.TreeDeep", spec := "treeDeep", unfollowed := true, recurses := true, apart := false }
def TreeDeepSaid : Prop := treeDeepRow.holds Try.pinned (OpenSpec.ofChange treeDeepSpec)

/-- ITS FALSE NEIGHBOUR: 'it returns false'. Refute it at one input. -/
def treeDeepWrong : ChangeSpec := { name := "treeDeep", fn := fun _ => fun
  | [d] => { results := [.lit (.bool false)], args := [d] }
  | _ => none }
def TreeDeepWrongFalsely : Prop := treeDeepRow.holds Try.pinned (OpenSpec.ofChange treeDeepWrong)

/-- 'annalkeep.BuildDeep': WHATEVER THE INPUT: true; the input reads as it did. -/
def buildDeepSpec : ChangeSpec := { name := "buildDeep", fn := fun _ => fun
  | [d] => { results := [.lit (.bool true)], args := [d] }
  | _ => none }
def buildDeepRow : OpenClaim := { program := "ytoaopihihccfkaa", sum := "dee713ed39e8ae2f1d47bd8b52667d9ab0ce76bea5c328fd4d983fc58d3d3025", func := "annalist/annalkeep.BuildDeep", spec := "buildDeep", unfollowed := true, recurses := true, apart := false }
def BuildDeepSaid : Prop := buildDeepRow.holds Try.pinned (OpenSpec.ofChange buildDeepSpec)

/-- ITS FALSE NEIGHBOUR: 'it returns false'. Refute it at one input. -/
def buildDeepWrong : ChangeSpec := { name := "buildDeep", fn := fun _ => fun
  | [d] => { results := [.lit (.bool false)], args := [d] }
  | _ => none }
def BuildDeepWrongFalsely : Prop := buildDeepRow.holds Try.pinned (OpenSpec.ofChange buildDeepWrong)

/-- 'annalkeep.FindFirst': WHATEVER THE INPUT: true; the input reads as it did. -/
def findFirstSpec : ChangeSpec := { name := "findFirst", fn := fun _ => fun
  | [d1, d2] => { results := [.lit (.bool true)], args := [d1, d2] }
  | _ => none }
def findFirstRow : OpenClaim := { program := "ytoaopihihccfkaa", sum := "dee713ed39e8ae2f1d47bd8b52667d9ab0ce76bea5c328fd4d983fc58d3d3025", func := "annalist/annalkeep.FindFirst", spec := "findFirst", unfollowed := true, recurses := true, apart := false }
def FindFirstSaid : Prop := findFirstRow.holds Try.pinned (OpenSpec.ofChange findFirstSpec)

/-- ITS FALSE NEIGHBOUR: 'it returns false'. Refute it at one input. -/
def findFirstWrong : ChangeSpec := { name := "findFirst", fn := fun _ => fun
  | [d1, d2] => { results := [.lit (.bool false)], args := [d1, d2] }
  | _ => none }
def FindFirstWrongFalsely : Prop := findFirstRow.holds Try.pinned (OpenSpec.ofChange findFirstWrong)

/-- 'annalkeep.BuildFew': WHATEVER THE INPUT: true; the input reads as it did. -/
def buildFewSpec : ChangeSpec := { name := "buildFew", fn := fun _ => fun
  | [d] => { results := [.lit (.bool true)], args := [d] }
  | _ => none }
def buildFewRow : OpenClaim := { program := "ytoaopihihccfkaa", sum := "dee713ed39e8ae2f1d47bd8b52667d9ab0ce76bea5c328fd4d983fc58d3d3025", func := "annalist/annalkeep.BuildFew", spec := "buildFew", unfollowed := true, recurses := true, apart := false }
def BuildFewSaid : Prop := buildFewRow.holds Try.pinned (OpenSpec.ofChange buildFewSpec)

/-- ITS FALSE NEIGHBOUR: 'it returns false'. Refute it at one input. -/
def buildFewWrong : ChangeSpec := { name := "buildFew", fn := fun _ => fun
  | [d] => { results := [.lit (.bool false)], args := [d] }
  | _ => none }
def BuildFewWrongFalsely : Prop := buildFewRow.holds Try.pinned (OpenSpec.ofChange buildFewWrong)

/-- 'annalkeep.FindNew': WHATEVER THE INPUT: true; the input reads as it did. -/
def findNewSpec : ChangeSpec := { name := "findNew", fn := fun _ => fun
  | [d1, d2, d3] => { results := [.lit (.bool true)], args := [d1, d2, d3] }
  | _ => none }
def findNewRow : OpenClaim := { program := "ytoaopihihccfkaa", sum := "dee713ed39e8ae2f1d47bd8b52667d9ab0ce76bea5c328fd4d983fc58d3d3025", func := "annalist/annalkeep.FindNew", spec := "findNew", unfollowed := true, recurses := true, apart := false }
def FindNewSaid : Prop := findNewRow.holds Try.pinned (OpenSpec.ofChange findNewSpec)

/-- ITS FALSE NEIGHBOUR: 'it returns false'. Refute it at one input. -/
def findNewWrong : ChangeSpec := { name := "findNew", fn := fun _ => fun
  | [d1, d2, d3] => { results := [.lit (.bool false)], args := [d1, d2, d3] }
  | _ => none }
def FindNewWrongFalsely : Prop := findNewRow.holds Try.pinned (OpenSpec.ofChange findNewWrong)

/-- 'annalkeep.FindOn': WHATEVER THE INPUT: true; the input reads as it did. -/
def findOnSpec : ChangeSpec := { name := "findOn", fn := fun _ => fun
  | [d1, d2] => { results := [.lit (.bool true)], args := [d1, d2] }
  | _ => none }
def findOnRow : OpenClaim := { program := "ytoaopihihccfkaa", sum := "dee713ed39e8ae2f1d47bd8b52667d9ab0ce76bea5c328fd4d983fc58d3d3025", func := "annalist/annalkeep.FindOn", spec := "findOn", unfollowed := true, recurses := true, apart := false }
def FindOnSaid : Prop := findOnRow.holds Try.pinned (OpenSpec.ofChange findOnSpec)

/-- ITS FALSE NEIGHBOUR: 'it returns false'. Refute it at one input. -/
def findOnWrong : ChangeSpec := { name := "findOn", fn := fun _ => fun
  | [d1, d2] => { results := [.lit (.bool false)], args := [d1, d2] }
  | _ => none }
def FindOnWrongFalsely : Prop := findOnRow.holds Try.pinned (OpenSpec.ofChange findOnWrong)

/-- 'annalkeep.PastEach': WHATEVER THE INPUT: true; the input reads as it did. -/
def pastEachSpec : ChangeSpec := { name := "pastEach", fn := fun _ => fun
  | [d1, d2] => { results := [.lit (.bool true)], args := [d1, d2] }
  | _ => none }
def pastEachRow : OpenClaim := { program := "ytoaopihihccfkaa", sum := "dee713ed39e8ae2f1d47bd8b52667d9ab0ce76bea5c328fd4d983fc58d3d3025", func := "annalist/annalkeep.PastEach", spec := "pastEach", unfollowed := true, recurses := true, apart := false }
def PastEachSaid : Prop := pastEachRow.holds Try.pinned (OpenSpec.ofChange pastEachSpec)

/-- ITS FALSE NEIGHBOUR: 'it returns false'. Refute it at one input. -/
def pastEachWrong : ChangeSpec := { name := "pastEach", fn := fun _ => fun
  | [d1, d2] => { results := [.lit (.bool false)], args := [d1, d2] }
  | _ => none }
def PastEachWrongFalsely : Prop := pastEachRow.holds Try.pinned (OpenSpec.ofChange pastEachWrong)

/-- 'annalkeep.PastSame': WHATEVER THE INPUT: true; the input reads as it did. -/
def pastSameSpec : ChangeSpec := { name := "pastSame", fn := fun _ => fun
  | [d1, d2, d3, d4, d5] => { results := [.lit (.bool true)], args := [d1, d2, d3, d4, d5] }
  | _ => none }
def pastSameRow : OpenClaim := { program := "ytoaopihihccfkaa", sum := "dee713ed39e8ae2f1d47bd8b52667d9ab0ce76bea5c328fd4d983fc58d3d3025", func := "annalist/annalkeep.PastSame", spec := "pastSame", unfollowed := true, recurses := true, apart := false }
def PastSameSaid : Prop := pastSameRow.holds Try.pinned (OpenSpec.ofChange pastSameSpec)

/-- ITS FALSE NEIGHBOUR: 'it returns false'. Refute it at one input. -/
def pastSameWrong : ChangeSpec := { name := "pastSame", fn := fun _ => fun
  | [d1, d2, d3, d4, d5] => { results := [.lit (.bool false)], args := [d1, d2, d3, d4, d5] }
  | _ => none }
def PastSameWrongFalsely : Prop := pastSameRow.holds Try.pinned (OpenSpec.ofChange pastSameWrong)

/- THE SECOND FORM. 'bulk': how many values and letters a reading holds, each counted each time it is reached (what is shared counts as often as it is met; a slice's spare places count too). A statement '..UptoSaid' is the law's where the arguments, and the package variables that the reading takes, are together of bulk at most 1048576: NARROWER than '..Said'. Prove '..Said' where nothing that the law and all that it calls make is longer than what came in: it says more and counts as full. Else prove '..UptoSaid'. A law counts once. -/
mutual
def uptoBulk {H : Type} : DataW H → Nat
  | .lit (.string bytes) => bytes.length + 1
  | .lit _ => 1
  | .nil => 1
  | .ptr d => uptoBulk d + 1
  | .slice elems spare => uptoBulkAll elems + uptoBulkAll spare + 1
  | .agg parts => uptoBulkAll parts + 1
  | .iface _ d => uptoBulk d + 1
  | .map entries => uptoBulkEntries entries + 1
  | .held _ => 1
def uptoBulkAll {H : Type} : List (DataW H) → Nat
  | [] => 0
  | d :: r => uptoBulk d + uptoBulkAll r
def uptoBulkEntries {H : Type} : List (Lit × DataW H) → Nat
  | [] => 0
  | x :: r => uptoBulkEntry x + uptoBulkEntries r
def uptoBulkEntry {H : Type} : Lit × DataW H → Nat
  | (.string bytes, d) => bytes.length + uptoBulk d + 1
  | (_, d) => uptoBulk d + 1
 end
def uptoSmall : (H : Type) → List (DataW H) → Bool := fun _ ds => decide (uptoBulkAll ds ≤ 1048576)
def OpenSpec.upto (s : _root_.Go.ChangeSpec) : _root_.Go.OpenSpec := { _root_.Go.OpenSpec.ofChange s with cond := some uptoSmall }

/-- 'annalkeep.TreeDeep', WHERE WHAT IT READS IS OF BULK AT MOST 1048576: true; the input reads as it did. -/
def treeDeepUptoRow : OpenClaim := { program := "ytoaopihihccfkaa", sum := "dee713ed39e8ae2f1d47bd8b52667d9ab0ce76bea5c328fd4d983fc58d3d3025", func := "annalist/annalkeep.TreeDeep", spec := "treeDeep", unfollowed := true, recurses := true, apart := false, narrowed := true }
def TreeDeepUptoSaid : Prop := treeDeepUptoRow.holds Try.pinned (OpenSpec.upto treeDeepSpec)

/-- 'annalkeep.BuildDeep', WHERE WHAT IT READS IS OF BULK AT MOST 1048576: true; the input reads as it did. -/
def buildDeepUptoRow : OpenClaim := { program := "ytoaopihihccfkaa", sum := "dee713ed39e8ae2f1d47bd8b52667d9ab0ce76bea5c328fd4d983fc58d3d3025", func := "annalist/annalkeep.BuildDeep", spec := "buildDeep", unfollowed := true, recurses := true, apart := false, narrowed := true }
def BuildDeepUptoSaid : Prop := buildDeepUptoRow.holds Try.pinned (OpenSpec.upto buildDeepSpec)

/-- 'annalkeep.FindFirst', WHERE WHAT IT READS IS OF BULK AT MOST 1048576: true; the input reads as it did. -/
def findFirstUptoRow : OpenClaim := { program := "ytoaopihihccfkaa", sum := "dee713ed39e8ae2f1d47bd8b52667d9ab0ce76bea5c328fd4d983fc58d3d3025", func := "annalist/annalkeep.FindFirst", spec := "findFirst", unfollowed := true, recurses := true, apart := false, narrowed := true }
def FindFirstUptoSaid : Prop := findFirstUptoRow.holds Try.pinned (OpenSpec.upto findFirstSpec)

/-- 'annalkeep.BuildFew', WHERE WHAT IT READS IS OF BULK AT MOST 1048576: true; the input reads as it did. -/
def buildFewUptoRow : OpenClaim := { program := "ytoaopihihccfkaa", sum := "dee713ed39e8ae2f1d47bd8b52667d9ab0ce76bea5c328fd4d983fc58d3d3025", func := "annalist/annalkeep.BuildFew", spec := "buildFew", unfollowed := true, recurses := true, apart := false, narrowed := true }
def BuildFewUptoSaid : Prop := buildFewUptoRow.holds Try.pinned (OpenSpec.upto buildFewSpec)

/-- 'annalkeep.FindNew', WHERE WHAT IT READS IS OF BULK AT MOST 1048576: true; the input reads as it did. -/
def findNewUptoRow : OpenClaim := { program := "ytoaopihihccfkaa", sum := "dee713ed39e8ae2f1d47bd8b52667d9ab0ce76bea5c328fd4d983fc58d3d3025", func := "annalist/annalkeep.FindNew", spec := "findNew", unfollowed := true, recurses := true, apart := false, narrowed := true }
def FindNewUptoSaid : Prop := findNewUptoRow.holds Try.pinned (OpenSpec.upto findNewSpec)

/-- 'annalkeep.FindOn', WHERE WHAT IT READS IS OF BULK AT MOST 1048576: true; the input reads as it did. -/
def findOnUptoRow : OpenClaim := { program := "ytoaopihihccfkaa", sum := "dee713ed39e8ae2f1d47bd8b52667d9ab0ce76bea5c328fd4d983fc58d3d3025", func := "annalist/annalkeep.FindOn", spec := "findOn", unfollowed := true, recurses := true, apart := false, narrowed := true }
def FindOnUptoSaid : Prop := findOnUptoRow.holds Try.pinned (OpenSpec.upto findOnSpec)

/-- 'annalkeep.PastEach', WHERE WHAT IT READS IS OF BULK AT MOST 1048576: true; the input reads as it did. -/
def pastEachUptoRow : OpenClaim := { program := "ytoaopihihccfkaa", sum := "dee713ed39e8ae2f1d47bd8b52667d9ab0ce76bea5c328fd4d983fc58d3d3025", func := "annalist/annalkeep.PastEach", spec := "pastEach", unfollowed := true, recurses := true, apart := false, narrowed := true }
def PastEachUptoSaid : Prop := pastEachUptoRow.holds Try.pinned (OpenSpec.upto pastEachSpec)

/-- 'annalkeep.PastSame', WHERE WHAT IT READS IS OF BULK AT MOST 1048576: true; the input reads as it did. -/
def pastSameUptoRow : OpenClaim := { program := "ytoaopihihccfkaa", sum := "dee713ed39e8ae2f1d47bd8b52667d9ab0ce76bea5c328fd4d983fc58d3d3025", func := "annalist/annalkeep.PastSame", spec := "pastSame", unfollowed := true, recurses := true, apart := false, narrowed := true }
def PastSameUptoSaid : Prop := pastSameUptoRow.holds Try.pinned (OpenSpec.upto pastSameSpec)

end Rows
end Go.Proofs.Ytoaopihihccfkaa
