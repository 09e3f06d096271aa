/-
  No cell of these rows narrows 'for every input' (looked for: loops, veiled, ifaces, maps, wideKeys, modest, calm, conditions, laid).
  DERIVED. THE GIVEN ROWS OF THIS SEAT. 5 by the template 'for every input the law returns true; each argument reads behind the call as it read before'; 0 by the template 'total and deterministic' (their statements: YtnofgfobljadbaaGreatTotals.lean).
  GIVEN WITH THE SEED: the statements are not yours to turn. If you find one false, say at which input.
  Laid BY PROGRAM, IN A SANDBOX (cutbox-rows.mjs): the forced cells as the released guide's own fill.sh prints them over the translation bef3f623f8a275ad… (all of the seat's roots in one cut). By AI agents, Wed Nov 11 2026. No macro, syntax, notation, axiom, sorry.
-/
import Derived.Test.YtnofgfobljadbaaGreatChecked
import GoSem.Claim
import GoSem.ClaimJoined
import GoSem.ClaimMapViews
import Derived.JoinedTies
import Derived.KernelRfl
namespace Go.Proofs.YtnofgfobljadbaaGreat
/- THE CELL 'sum', in the pinned program and in every row, IS THE sha256 OF THE DUMP (.gsa) THAT YtnofgfobljadbaaGreatProg.lean LOADS. Nothing in Lean hashes anything: it is a label: what it is worth is what the hold of that sum in a sandbox is worth. -/
noncomputable def Tryz.pinned : Pinned := { name := "ytnofgfobljadbaagreat", sum := "bef3f623f8a275ad8694eca330c38c47dc9915956129244202648e0355774cab", checked := Tryz.checked }
namespace Rows
def none {H : Type} : Left H := { results := [], args := [] }

/-- 'annalkeep.StoreOwn': WHATEVER THE INPUT: true; the input reads as it did. -/
def storeOwnSpec : ChangeSpec := { name := "storeOwn", fn := fun _ => fun
  | [d1, d2] => { results := [.lit (.bool true)], args := [d1, d2] }
  | _ => none }
def storeOwnRow : OpenClaim := { program := "ytnofgfobljadbaagreat", sum := "bef3f623f8a275ad8694eca330c38c47dc9915956129244202648e0355774cab", func := "annalist/annalkeep.StoreOwn", spec := "storeOwn", inPlace := ["slices.overlaps[annalist/api.Elem]", "slices.overlaps[int]", "slices.overlaps[annalist/api.Spot]"], unfollowed := true, recurses := true, apart := false }
def StoreOwnSaid : Prop := storeOwnRow.holds Tryz.pinned (OpenSpec.ofChange storeOwnSpec)

/-- ITS FALSE NEIGHBOUR: 'it returns false'. Refute it at one input. -/
def storeOwnWrong : ChangeSpec := { name := "storeOwn", fn := fun _ => fun
  | [d1, d2] => { results := [.lit (.bool false)], args := [d1, d2] }
  | _ => none }
def StoreOwnWrongFalsely : Prop := storeOwnRow.holds Tryz.pinned (OpenSpec.ofChange storeOwnWrong)

/-- 'annalkeep.StoreSteps': WHATEVER THE INPUT: true; the input reads as it did. -/
def storeStepsSpec : ChangeSpec := { name := "storeSteps", fn := fun _ => fun
  | [d1, d2, d3, d4, d5] => { results := [.lit (.bool true)], args := [d1, d2, d3, d4, d5] }
  | _ => none }
def storeStepsRow : OpenClaim := { program := "ytnofgfobljadbaagreat", sum := "bef3f623f8a275ad8694eca330c38c47dc9915956129244202648e0355774cab", func := "annalist/annalkeep.StoreSteps", spec := "storeSteps", inPlace := ["slices.overlaps[annalist/api.Elem]", "slices.overlaps[int]", "slices.overlaps[annalist/api.Spot]"], unfollowed := true, recurses := true, apart := false }
def StoreStepsSaid : Prop := storeStepsRow.holds Tryz.pinned (OpenSpec.ofChange storeStepsSpec)

/-- ITS FALSE NEIGHBOUR: 'it returns false'. Refute it at one input. -/
def storeStepsWrong : ChangeSpec := { name := "storeSteps", fn := fun _ => fun
  | [d1, d2, d3, d4, d5] => { results := [.lit (.bool false)], args := [d1, d2, d3, d4, d5] }
  | _ => none }
def StoreStepsWrongFalsely : Prop := storeStepsRow.holds Tryz.pinned (OpenSpec.ofChange storeStepsWrong)

/-- 'annalkeep.StoreHolds': WHATEVER THE INPUT: true; the input reads as it did. -/
def storeHoldsSpec : ChangeSpec := { name := "storeHolds", fn := fun _ => fun
  | [d1, d2, d3] => { results := [.lit (.bool true)], args := [d1, d2, d3] }
  | _ => none }
def storeHoldsRow : OpenClaim := { program := "ytnofgfobljadbaagreat", sum := "bef3f623f8a275ad8694eca330c38c47dc9915956129244202648e0355774cab", func := "annalist/annalkeep.StoreHolds", spec := "storeHolds", inPlace := ["slices.overlaps[annalist/api.Elem]", "slices.overlaps[int]", "slices.overlaps[annalist/api.Spot]"], unfollowed := true, recurses := true, apart := false }
def StoreHoldsSaid : Prop := storeHoldsRow.holds Tryz.pinned (OpenSpec.ofChange storeHoldsSpec)

/-- ITS FALSE NEIGHBOUR: 'it returns false'. Refute it at one input. -/
def storeHoldsWrong : ChangeSpec := { name := "storeHolds", fn := fun _ => fun
  | [d1, d2, d3] => { results := [.lit (.bool false)], args := [d1, d2, d3] }
  | _ => none }
def StoreHoldsWrongFalsely : Prop := storeHoldsRow.holds Tryz.pinned (OpenSpec.ofChange storeHoldsWrong)

/-- 'annalkeep.StoreLazy': WHATEVER THE INPUT: true; the input reads as it did. -/
def storeLazySpec : ChangeSpec := { name := "storeLazy", fn := fun _ => fun
  | [d1, d2, d3] => { results := [.lit (.bool true)], args := [d1, d2, d3] }
  | _ => none }
def storeLazyRow : OpenClaim := { program := "ytnofgfobljadbaagreat", sum := "bef3f623f8a275ad8694eca330c38c47dc9915956129244202648e0355774cab", func := "annalist/annalkeep.StoreLazy", spec := "storeLazy", inPlace := ["slices.overlaps[annalist/api.Elem]", "slices.overlaps[int]", "slices.overlaps[annalist/api.Spot]"], unfollowed := true, recurses := true, apart := false }
def StoreLazySaid : Prop := storeLazyRow.holds Tryz.pinned (OpenSpec.ofChange storeLazySpec)

/-- ITS FALSE NEIGHBOUR: 'it returns false'. Refute it at one input. -/
def storeLazyWrong : ChangeSpec := { name := "storeLazy", fn := fun _ => fun
  | [d1, d2, d3] => { results := [.lit (.bool false)], args := [d1, d2, d3] }
  | _ => none }
def StoreLazyWrongFalsely : Prop := storeLazyRow.holds Tryz.pinned (OpenSpec.ofChange storeLazyWrong)

/-- 'annalkeep.StoreAgain': WHATEVER THE INPUT: true; the input reads as it did. -/
def storeAgainSpec : ChangeSpec := { name := "storeAgain", fn := fun _ => fun
  | [d1, d2] => { results := [.lit (.bool true)], args := [d1, d2] }
  | _ => none }
def storeAgainRow : OpenClaim := { program := "ytnofgfobljadbaagreat", sum := "bef3f623f8a275ad8694eca330c38c47dc9915956129244202648e0355774cab", func := "annalist/annalkeep.StoreAgain", spec := "storeAgain", inPlace := ["slices.overlaps[annalist/api.Elem]", "slices.overlaps[int]", "slices.overlaps[annalist/api.Spot]"], unfollowed := true, recurses := true, apart := false }
def StoreAgainSaid : Prop := storeAgainRow.holds Tryz.pinned (OpenSpec.ofChange storeAgainSpec)

/-- ITS FALSE NEIGHBOUR: 'it returns false'. Refute it at one input. -/
def storeAgainWrong : ChangeSpec := { name := "storeAgain", fn := fun _ => fun
  | [d1, d2] => { results := [.lit (.bool false)], args := [d1, d2] }
  | _ => none }
def StoreAgainWrongFalsely : Prop := storeAgainRow.holds Tryz.pinned (OpenSpec.ofChange storeAgainWrong)

/- THE SECOND FORM. 'bulk': how many values and letters a reading holds, each counted each time it is reached (what is shared counts as often as it is met; a slice's spare places count too). A statement '..UptoSaid' is the law's where the arguments, and the package variables that the reading takes, are together of bulk at most 1048576: NARROWER than '..Said'. Prove '..Said' where nothing that the law and all that it calls make is longer than what came in: it says more and counts as full. Else prove '..UptoSaid'. A law counts once. -/
mutual
def uptoBulk {H : Type} : DataW H → Nat
  | .lit (.string bytes) => bytes.length + 1
  | .lit _ => 1
  | .nil => 1
  | .ptr d => uptoBulk d + 1
  | .slice elems spare => uptoBulkAll elems + uptoBulkAll spare + 1
  | .agg parts => uptoBulkAll parts + 1
  | .iface _ d => uptoBulk d + 1
  | .map entries => uptoBulkEntries entries + 1
  | .held _ => 1
def uptoBulkAll {H : Type} : List (DataW H) → Nat
  | [] => 0
  | d :: r => uptoBulk d + uptoBulkAll r
def uptoBulkEntries {H : Type} : List (Lit × DataW H) → Nat
  | [] => 0
  | x :: r => uptoBulkEntry x + uptoBulkEntries r
def uptoBulkEntry {H : Type} : Lit × DataW H → Nat
  | (.string bytes, d) => bytes.length + uptoBulk d + 1
  | (_, d) => uptoBulk d + 1
 end
def uptoSmall : (H : Type) → List (DataW H) → Bool := fun _ ds => decide (uptoBulkAll ds ≤ 1048576)
def OpenSpec.upto (s : _root_.Go.ChangeSpec) : _root_.Go.OpenSpec := { _root_.Go.OpenSpec.ofChange s with cond := some uptoSmall }

/-- 'annalkeep.StoreOwn', WHERE WHAT IT READS IS OF BULK AT MOST 1048576: true; the input reads as it did. -/
def storeOwnUptoRow : OpenClaim := { program := "ytnofgfobljadbaagreat", sum := "bef3f623f8a275ad8694eca330c38c47dc9915956129244202648e0355774cab", func := "annalist/annalkeep.StoreOwn", spec := "storeOwn", inPlace := ["slices.overlaps[annalist/api.Elem]", "slices.overlaps[int]", "slices.overlaps[annalist/api.Spot]"], unfollowed := true, recurses := true, apart := false, narrowed := true }
def StoreOwnUptoSaid : Prop := storeOwnUptoRow.holds Tryz.pinned (OpenSpec.upto storeOwnSpec)

/-- 'annalkeep.StoreSteps', WHERE WHAT IT READS IS OF BULK AT MOST 1048576: true; the input reads as it did. -/
def storeStepsUptoRow : OpenClaim := { program := "ytnofgfobljadbaagreat", sum := "bef3f623f8a275ad8694eca330c38c47dc9915956129244202648e0355774cab", func := "annalist/annalkeep.StoreSteps", spec := "storeSteps", inPlace := ["slices.overlaps[annalist/api.Elem]", "slices.overlaps[int]", "slices.overlaps[annalist/api.Spot]"], unfollowed := true, recurses := true, apart := false, narrowed := true }
def StoreStepsUptoSaid : Prop := storeStepsUptoRow.holds Tryz.pinned (OpenSpec.upto storeStepsSpec)

/-- 'annalkeep.StoreHolds', WHERE WHAT IT READS IS OF BULK AT MOST 1048576: true; the input reads as it did. -/
def storeHoldsUptoRow : OpenClaim := { program := "ytnofgfobljadbaagreat", sum := "bef3f623f8a275ad8694eca330c38c47dc9915956129244202648e0355774cab", func := "annalist/annalkeep.StoreHolds", spec := "storeHolds", inPlace := ["slices.overlaps[annalist/api.Elem]", "slices.overlaps[int]", "slices.overlaps[annalist/api.Spot]"], unfollowed := true, recurses := true, apart := false, narrowed := true }
def StoreHoldsUptoSaid : Prop := storeHoldsUptoRow.holds Tryz.pinned (OpenSpec.upto storeHoldsSpec)

/-- 'annalkeep.StoreLazy', WHERE WHAT IT READS IS OF BULK AT MOST 1048576: true; the input reads as it did. -/
def storeLazyUptoRow : OpenClaim := { program := "ytnofgfobljadbaagreat", sum := "bef3f623f8a275ad8694eca330c38c47dc9915956129244202648e0355774cab", func := "annalist/annalkeep.StoreLazy", spec := "storeLazy", inPlace := ["slices.overlaps[annalist/api.Elem]", "slices.overlaps[int]", "slices.overlaps[annalist/api.Spot]"], unfollowed := true, recurses := true, apart := false, narrowed := true }
def StoreLazyUptoSaid : Prop := storeLazyUptoRow.holds Tryz.pinned (OpenSpec.upto storeLazySpec)

/-- 'annalkeep.StoreAgain', WHERE WHAT IT READS IS OF BULK AT MOST 1048576: true; the input reads as it did. -/
def storeAgainUptoRow : OpenClaim := { program := "ytnofgfobljadbaagreat", sum := "bef3f623f8a275ad8694eca330c38c47dc9915956129244202648e0355774cab", func := "annalist/annalkeep.StoreAgain", spec := "storeAgain", inPlace := ["slices.overlaps[annalist/api.Elem]", "slices.overlaps[int]", "slices.overlaps[annalist/api.Spot]"], unfollowed := true, recurses := true, apart := false, narrowed := true }
def StoreAgainUptoSaid : Prop := storeAgainUptoRow.holds Tryz.pinned (OpenSpec.upto storeAgainSpec)

end Rows
end Go.Proofs.YtnofgfobljadbaaGreat
