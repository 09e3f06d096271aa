/-
  No cell of these rows narrows 'for every input' (looked for: loops, veiled, ifaces, maps, wideKeys, modest, calm, conditions, laid).
  DERIVED. THE GIVEN ROWS OF THIS SEAT. 8 by the template 'for every input the law returns true; each argument reads behind the call as it read before'; 0 by the template 'total and deterministic' (their statements: YtomgholekojenaaTotals.lean).
  GIVEN WITH THE SEED: the statements are not yours to turn. If you find one false, say at which input.
  Laid BY PROGRAM, IN A SANDBOX (cutbox-rows.mjs): the forced cells as the released guide's own fill.sh prints them over the translation 7d0f02ba7a68955c… (all of the seat's roots in one cut). By AI agents, Wed Nov 11 2026. No macro, syntax, notation, axiom, sorry.
-/
import Derived.Test.YtomgholekojenaaChecked
import GoSem.Claim
import GoSem.ClaimJoined
import GoSem.ClaimMapViews
import Derived.JoinedTies
import Derived.KernelRfl
namespace Go.Proofs.Ytomgholekojenaa
/- THE CELL 'sum', in the pinned program and in every row, IS THE sha256 OF THE DUMP (.gsa) THAT YtomgholekojenaaProg.lean LOADS. Nothing in Lean hashes anything: it is a label: what it is worth is what the hold of that sum in a sandbox is worth. -/
noncomputable def Try.pinned : Pinned := { name := "ytomgholekojenaa", sum := "7d0f02ba7a68955c0c22643a26bc0fd0477ec13a8a9de5d990977356067a2fb3", checked := Try.checked }
namespace Rows
def none {H : Type} : Left H := { results := [], args := [] }

/-- 'annalkeep.UndoTwice': WHATEVER THE INPUT: true; the input reads as it did. -/
def undoTwiceSpec : ChangeSpec := { name := "undoTwice", fn := fun _ => fun
  | [d1, d2] => { results := [.lit (.bool true)], args := [d1, d2] }
  | _ => none }
def undoTwiceRow : OpenClaim := { program := "ytomgholekojenaa", sum := "7d0f02ba7a68955c0c22643a26bc0fd0477ec13a8a9de5d990977356067a2fb3", func := "annalist/annalkeep.UndoTwice", spec := "undoTwice", unfollowed := true, recurses := true, apart := false }
def UndoTwiceSaid : Prop := undoTwiceRow.holds Try.pinned (OpenSpec.ofChange undoTwiceSpec)

/-- ITS FALSE NEIGHBOUR: 'it returns false'. Refute it at one input. -/
def undoTwiceWrong : ChangeSpec := { name := "undoTwice", fn := fun _ => fun
  | [d1, d2] => { results := [.lit (.bool false)], args := [d1, d2] }
  | _ => none }
def UndoTwiceWrongFalsely : Prop := undoTwiceRow.holds Try.pinned (OpenSpec.ofChange undoTwiceWrong)

/-- 'annalkeep.RealmTimes': WHATEVER THE INPUT: true; the input reads as it did. -/
def realmTimesSpec : ChangeSpec := { name := "realmTimes", fn := fun _ => fun
  | [d1, d2, d3] => { results := [.lit (.bool true)], args := [d1, d2, d3] }
  | _ => none }
def realmTimesRow : OpenClaim := { program := "ytomgholekojenaa", sum := "7d0f02ba7a68955c0c22643a26bc0fd0477ec13a8a9de5d990977356067a2fb3", func := "annalist/annalkeep.RealmTimes", spec := "realmTimes", unfollowed := true, recurses := true, apart := false }
def RealmTimesSaid : Prop := realmTimesRow.holds Try.pinned (OpenSpec.ofChange realmTimesSpec)

/-- ITS FALSE NEIGHBOUR: 'it returns false'. Refute it at one input. -/
def realmTimesWrong : ChangeSpec := { name := "realmTimes", fn := fun _ => fun
  | [d1, d2, d3] => { results := [.lit (.bool false)], args := [d1, d2, d3] }
  | _ => none }
def RealmTimesWrongFalsely : Prop := realmTimesRow.holds Try.pinned (OpenSpec.ofChange realmTimesWrong)

/-- 'annalkeep.UndoOthers': WHATEVER THE INPUT: true; the input reads as it did. -/
def undoOthersSpec : ChangeSpec := { name := "undoOthers", fn := fun _ => fun
  | [d1, d2, d3, d4] => { results := [.lit (.bool true)], args := [d1, d2, d3, d4] }
  | _ => none }
def undoOthersRow : OpenClaim := { program := "ytomgholekojenaa", sum := "7d0f02ba7a68955c0c22643a26bc0fd0477ec13a8a9de5d990977356067a2fb3", func := "annalist/annalkeep.UndoOthers", spec := "undoOthers", unfollowed := true, recurses := true, apart := false }
def UndoOthersSaid : Prop := undoOthersRow.holds Try.pinned (OpenSpec.ofChange undoOthersSpec)

/-- ITS FALSE NEIGHBOUR: 'it returns false'. Refute it at one input. -/
def undoOthersWrong : ChangeSpec := { name := "undoOthers", fn := fun _ => fun
  | [d1, d2, d3, d4] => { results := [.lit (.bool false)], args := [d1, d2, d3, d4] }
  | _ => none }
def UndoOthersWrongFalsely : Prop := undoOthersRow.holds Try.pinned (OpenSpec.ofChange undoOthersWrong)

/-- 'annalkeep.UndoCounts': WHATEVER THE INPUT: true; the input reads as it did. -/
def undoCountsSpec : ChangeSpec := { name := "undoCounts", fn := fun _ => fun
  | [d1, d2, d3] => { results := [.lit (.bool true)], args := [d1, d2, d3] }
  | _ => none }
def undoCountsRow : OpenClaim := { program := "ytomgholekojenaa", sum := "7d0f02ba7a68955c0c22643a26bc0fd0477ec13a8a9de5d990977356067a2fb3", func := "annalist/annalkeep.UndoCounts", spec := "undoCounts", unfollowed := true, recurses := true, apart := false }
def UndoCountsSaid : Prop := undoCountsRow.holds Try.pinned (OpenSpec.ofChange undoCountsSpec)

/-- ITS FALSE NEIGHBOUR: 'it returns false'. Refute it at one input. -/
def undoCountsWrong : ChangeSpec := { name := "undoCounts", fn := fun _ => fun
  | [d1, d2, d3] => { results := [.lit (.bool false)], args := [d1, d2, d3] }
  | _ => none }
def UndoCountsWrongFalsely : Prop := undoCountsRow.holds Try.pinned (OpenSpec.ofChange undoCountsWrong)

/-- 'annalkeep.RealmTurns': WHATEVER THE INPUT: true; the input reads as it did. -/
def realmTurnsSpec : ChangeSpec := { name := "realmTurns", fn := fun _ => fun
  | [d1, d2] => { results := [.lit (.bool true)], args := [d1, d2] }
  | _ => none }
def realmTurnsRow : OpenClaim := { program := "ytomgholekojenaa", sum := "7d0f02ba7a68955c0c22643a26bc0fd0477ec13a8a9de5d990977356067a2fb3", func := "annalist/annalkeep.RealmTurns", spec := "realmTurns", unfollowed := true, recurses := true, apart := false }
def RealmTurnsSaid : Prop := realmTurnsRow.holds Try.pinned (OpenSpec.ofChange realmTurnsSpec)

/-- ITS FALSE NEIGHBOUR: 'it returns false'. Refute it at one input. -/
def realmTurnsWrong : ChangeSpec := { name := "realmTurns", fn := fun _ => fun
  | [d1, d2] => { results := [.lit (.bool false)], args := [d1, d2] }
  | _ => none }
def RealmTurnsWrongFalsely : Prop := realmTurnsRow.holds Try.pinned (OpenSpec.ofChange realmTurnsWrong)

/-- 'annalkeep.UndoWhole': WHATEVER THE INPUT: true; the input reads as it did. -/
def undoWholeSpec : ChangeSpec := { name := "undoWhole", fn := fun _ => fun
  | [d1, d2, d3, d4, d5] => { results := [.lit (.bool true)], args := [d1, d2, d3, d4, d5] }
  | _ => none }
def undoWholeRow : OpenClaim := { program := "ytomgholekojenaa", sum := "7d0f02ba7a68955c0c22643a26bc0fd0477ec13a8a9de5d990977356067a2fb3", func := "annalist/annalkeep.UndoWhole", spec := "undoWhole", unfollowed := true, recurses := true, apart := false }
def UndoWholeSaid : Prop := undoWholeRow.holds Try.pinned (OpenSpec.ofChange undoWholeSpec)

/-- ITS FALSE NEIGHBOUR: 'it returns false'. Refute it at one input. -/
def undoWholeWrong : ChangeSpec := { name := "undoWhole", fn := fun _ => fun
  | [d1, d2, d3, d4, d5] => { results := [.lit (.bool false)], args := [d1, d2, d3, d4, d5] }
  | _ => none }
def UndoWholeWrongFalsely : Prop := undoWholeRow.holds Try.pinned (OpenSpec.ofChange undoWholeWrong)

/-- 'annalkeep.RealmApart': WHATEVER THE INPUT: true; the input reads as it did. -/
def realmApartSpec : ChangeSpec := { name := "realmApart", fn := fun _ => fun
  | [d1, d2, d3, d4, d5] => { results := [.lit (.bool true)], args := [d1, d2, d3, d4, d5] }
  | _ => none }
def realmApartRow : OpenClaim := { program := "ytomgholekojenaa", sum := "7d0f02ba7a68955c0c22643a26bc0fd0477ec13a8a9de5d990977356067a2fb3", func := "annalist/annalkeep.RealmApart", spec := "realmApart", unfollowed := true, recurses := true, apart := false }
def RealmApartSaid : Prop := realmApartRow.holds Try.pinned (OpenSpec.ofChange realmApartSpec)

/-- ITS FALSE NEIGHBOUR: 'it returns false'. Refute it at one input. -/
def realmApartWrong : ChangeSpec := { name := "realmApart", fn := fun _ => fun
  | [d1, d2, d3, d4, d5] => { results := [.lit (.bool false)], args := [d1, d2, d3, d4, d5] }
  | _ => none }
def RealmApartWrongFalsely : Prop := realmApartRow.holds Try.pinned (OpenSpec.ofChange realmApartWrong)

/-- 'annalkeep.RealmFollows': WHATEVER THE INPUT: true; the input reads as it did. -/
def realmFollowsSpec : ChangeSpec := { name := "realmFollows", fn := fun _ => fun
  | [d1, d2, d3, d4, d5] => { results := [.lit (.bool true)], args := [d1, d2, d3, d4, d5] }
  | _ => none }
def realmFollowsRow : OpenClaim := { program := "ytomgholekojenaa", sum := "7d0f02ba7a68955c0c22643a26bc0fd0477ec13a8a9de5d990977356067a2fb3", func := "annalist/annalkeep.RealmFollows", spec := "realmFollows", unfollowed := true, recurses := true, apart := false }
def RealmFollowsSaid : Prop := realmFollowsRow.holds Try.pinned (OpenSpec.ofChange realmFollowsSpec)

/-- ITS FALSE NEIGHBOUR: 'it returns false'. Refute it at one input. -/
def realmFollowsWrong : ChangeSpec := { name := "realmFollows", fn := fun _ => fun
  | [d1, d2, d3, d4, d5] => { results := [.lit (.bool false)], args := [d1, d2, d3, d4, d5] }
  | _ => none }
def RealmFollowsWrongFalsely : Prop := realmFollowsRow.holds Try.pinned (OpenSpec.ofChange realmFollowsWrong)

/- THE SECOND FORM. 'bulk': how many values and letters a reading holds, each counted each time it is reached (what is shared counts as often as it is met; a slice's spare places count too). A statement '..UptoSaid' is the law's where the arguments, and the package variables that the reading takes, are together of bulk at most 1048576: NARROWER than '..Said'. Prove '..Said' where nothing that the law and all that it calls make is longer than what came in: it says more and counts as full. Else prove '..UptoSaid'. A law counts once. -/
mutual
def uptoBulk {H : Type} : DataW H → Nat
  | .lit (.string bytes) => bytes.length + 1
  | .lit _ => 1
  | .nil => 1
  | .ptr d => uptoBulk d + 1
  | .slice elems spare => uptoBulkAll elems + uptoBulkAll spare + 1
  | .agg parts => uptoBulkAll parts + 1
  | .iface _ d => uptoBulk d + 1
  | .map entries => uptoBulkEntries entries + 1
  | .held _ => 1
def uptoBulkAll {H : Type} : List (DataW H) → Nat
  | [] => 0
  | d :: r => uptoBulk d + uptoBulkAll r
def uptoBulkEntries {H : Type} : List (Lit × DataW H) → Nat
  | [] => 0
  | x :: r => uptoBulkEntry x + uptoBulkEntries r
def uptoBulkEntry {H : Type} : Lit × DataW H → Nat
  | (.string bytes, d) => bytes.length + uptoBulk d + 1
  | (_, d) => uptoBulk d + 1
 end
def uptoSmall : (H : Type) → List (DataW H) → Bool := fun _ ds => decide (uptoBulkAll ds ≤ 1048576)
def OpenSpec.upto (s : _root_.Go.ChangeSpec) : _root_.Go.OpenSpec := { _root_.Go.OpenSpec.ofChange s with cond := some uptoSmall }

/-- 'annalkeep.UndoTwice', WHERE WHAT IT READS IS OF BULK AT MOST 1048576: true; the input reads as it did. -/
def undoTwiceUptoRow : OpenClaim := { program := "ytomgholekojenaa", sum := "7d0f02ba7a68955c0c22643a26bc0fd0477ec13a8a9de5d990977356067a2fb3", func := "annalist/annalkeep.UndoTwice", spec := "undoTwice", unfollowed := true, recurses := true, apart := false, narrowed := true }
def UndoTwiceUptoSaid : Prop := undoTwiceUptoRow.holds Try.pinned (OpenSpec.upto undoTwiceSpec)

/-- 'annalkeep.RealmTimes', WHERE WHAT IT READS IS OF BULK AT MOST 1048576: true; the input reads as it did. -/
def realmTimesUptoRow : OpenClaim := { program := "ytomgholekojenaa", sum := "7d0f02ba7a68955c0c22643a26bc0fd0477ec13a8a9de5d990977356067a2fb3", func := "annalist/annalkeep.RealmTimes", spec := "realmTimes", unfollowed := true, recurses := true, apart := false, narrowed := true }
def RealmTimesUptoSaid : Prop := realmTimesUptoRow.holds Try.pinned (OpenSpec.upto realmTimesSpec)

/-- 'annalkeep.UndoOthers', WHERE WHAT IT READS IS OF BULK AT MOST 1048576: true; the input reads as it did. -/
def undoOthersUptoRow : OpenClaim := { program := "ytomgholekojenaa", sum := "7d0f02ba7a68955c0c22643a26bc0fd0477ec13a8a9de5d990977356067a2fb3", func := "annalist/annalkeep.UndoOthers", spec := "undoOthers", unfollowed := true, recurses := true, apart := false, narrowed := true }
def UndoOthersUptoSaid : Prop := undoOthersUptoRow.holds Try.pinned (OpenSpec.upto undoOthersSpec)

/-- 'annalkeep.UndoCounts', WHERE WHAT IT READS IS OF BULK AT MOST 1048576: true; the input reads as it did. -/
def undoCountsUptoRow : OpenClaim := { program := "ytomgholekojenaa", sum := "7d0f02ba7a68955c0c22643a26bc0fd0477ec13a8a9de5d990977356067a2fb3", func := "annalist/annalkeep.UndoCounts", spec := "undoCounts", unfollowed := true, recurses := true, apart := false, narrowed := true }
def UndoCountsUptoSaid : Prop := undoCountsUptoRow.holds Try.pinned (OpenSpec.upto undoCountsSpec)

/-- 'annalkeep.RealmTurns', WHERE WHAT IT READS IS OF BULK AT MOST 1048576: true; the input reads as it did. -/
def realmTurnsUptoRow : OpenClaim := { program := "ytomgholekojenaa", sum := "7d0f02ba7a68955c0c22643a26bc0fd0477ec13a8a9de5d990977356067a2fb3", func := "annalist/annalkeep.RealmTurns", spec := "realmTurns", unfollowed := true, recurses := true, apart := false, narrowed := true }
def RealmTurnsUptoSaid : Prop := realmTurnsUptoRow.holds Try.pinned (OpenSpec.upto realmTurnsSpec)

/-- 'annalkeep.UndoWhole', WHERE WHAT IT READS IS OF BULK AT MOST 1048576: true; the input reads as it did. -/
def undoWholeUptoRow : OpenClaim := { program := "ytomgholekojenaa", sum := "7d0f02ba7a68955c0c22643a26bc0fd0477ec13a8a9de5d990977356067a2fb3", func := "annalist/annalkeep.UndoWhole", spec := "undoWhole", unfollowed := true, recurses := true, apart := false, narrowed := true }
def UndoWholeUptoSaid : Prop := undoWholeUptoRow.holds Try.pinned (OpenSpec.upto undoWholeSpec)

/-- 'annalkeep.RealmApart', WHERE WHAT IT READS IS OF BULK AT MOST 1048576: true; the input reads as it did. -/
def realmApartUptoRow : OpenClaim := { program := "ytomgholekojenaa", sum := "7d0f02ba7a68955c0c22643a26bc0fd0477ec13a8a9de5d990977356067a2fb3", func := "annalist/annalkeep.RealmApart", spec := "realmApart", unfollowed := true, recurses := true, apart := false, narrowed := true }
def RealmApartUptoSaid : Prop := realmApartUptoRow.holds Try.pinned (OpenSpec.upto realmApartSpec)

/-- 'annalkeep.RealmFollows', WHERE WHAT IT READS IS OF BULK AT MOST 1048576: true; the input reads as it did. -/
def realmFollowsUptoRow : OpenClaim := { program := "ytomgholekojenaa", sum := "7d0f02ba7a68955c0c22643a26bc0fd0477ec13a8a9de5d990977356067a2fb3", func := "annalist/annalkeep.RealmFollows", spec := "realmFollows", unfollowed := true, recurses := true, apart := false, narrowed := true }
def RealmFollowsUptoSaid : Prop := realmFollowsUptoRow.holds Try.pinned (OpenSpec.upto realmFollowsSpec)

end Rows
end Go.Proofs.Ytomgholekojenaa
