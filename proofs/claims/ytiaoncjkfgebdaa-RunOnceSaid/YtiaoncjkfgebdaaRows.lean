/-
  No cell of these rows narrows 'for every input' (looked for: loops, veiled, ifaces, maps, wideKeys, modest, calm, conditions, laid).
  DERIVED. THE GIVEN ROWS OF THIS SEAT. 24 by the template 'for every input the law returns true; each argument reads behind the call as it read before'; 0 by the template 'total and deterministic' (their statements: YtiaoncjkfgebdaaTotals.lean).
  GIVEN WITH THE SEED: the statements are not yours to turn. If you find one false, say at which input.
  Laid BY PROGRAM, IN A SANDBOX (cutbox-rows.mjs): the forced cells as the released guide's own fill.sh prints them over the translation 6dd1db045fcb4927… (all of the seat's roots in one cut). By AI agents, Wed Nov 11 2026. No macro, syntax, notation, axiom, sorry.
-/
import Derived.Test.YtiaoncjkfgebdaaChecked
import GoSem.Claim
import GoSem.ClaimJoined
import GoSem.ClaimMapViews
import Derived.JoinedTies
import Derived.KernelRfl
namespace Go.Proofs.Ytiaoncjkfgebdaa
/- THE CELL 'sum', in the pinned program and in every row, IS THE sha256 OF THE DUMP (.gsa) THAT YtiaoncjkfgebdaaProg.lean LOADS. Nothing in Lean hashes anything: it is a label: what it is worth is what the hold of that sum in a sandbox is worth. -/
noncomputable def Try.pinned : Pinned := { name := "ytiaoncjkfgebdaa", sum := "6dd1db045fcb49272f4f206794f3d4758ea9c67a0ac2f3a9c50d4069c75e9088", checked := Try.checked }
namespace Rows
def none {H : Type} : Left H := { results := [], args := [] }

/-- 'annalkeep.RunBetween': WHATEVER THE INPUT: true; the input reads as it did. -/
def runBetweenSpec : ChangeSpec := { name := "runBetween", fn := fun _ => fun
  | [d1, d2, d3, d4] => { results := [.lit (.bool true)], args := [d1, d2, d3, d4] }
  | _ => none }
def runBetweenRow : OpenClaim := { program := "ytiaoncjkfgebdaa", sum := "6dd1db045fcb49272f4f206794f3d4758ea9c67a0ac2f3a9c50d4069c75e9088", func := "annalist/annalkeep.RunBetween", spec := "runBetween", apart := false }
def RunBetweenSaid : Prop := runBetweenRow.holds Try.pinned (OpenSpec.ofChange runBetweenSpec)

/-- ITS FALSE NEIGHBOUR: 'it returns false'. Refute it at one input. -/
def runBetweenWrong : ChangeSpec := { name := "runBetween", fn := fun _ => fun
  | [d1, d2, d3, d4] => { results := [.lit (.bool false)], args := [d1, d2, d3, d4] }
  | _ => none }
def RunBetweenWrongFalsely : Prop := runBetweenRow.holds Try.pinned (OpenSpec.ofChange runBetweenWrong)

/-- 'annalkeep.RunPieces': WHATEVER THE INPUT: true; the input reads as it did. -/
def runPiecesSpec : ChangeSpec := { name := "runPieces", fn := fun _ => fun
  | [d1, d2, d3, d4] => { results := [.lit (.bool true)], args := [d1, d2, d3, d4] }
  | _ => none }
def runPiecesRow : OpenClaim := { program := "ytiaoncjkfgebdaa", sum := "6dd1db045fcb49272f4f206794f3d4758ea9c67a0ac2f3a9c50d4069c75e9088", func := "annalist/annalkeep.RunPieces", spec := "runPieces", unfollowed := true, recurses := true, apart := false }
def RunPiecesSaid : Prop := runPiecesRow.holds Try.pinned (OpenSpec.ofChange runPiecesSpec)

/-- ITS FALSE NEIGHBOUR: 'it returns false'. Refute it at one input. -/
def runPiecesWrong : ChangeSpec := { name := "runPieces", fn := fun _ => fun
  | [d1, d2, d3, d4] => { results := [.lit (.bool false)], args := [d1, d2, d3, d4] }
  | _ => none }
def RunPiecesWrongFalsely : Prop := runPiecesRow.holds Try.pinned (OpenSpec.ofChange runPiecesWrong)

/-- 'annalkeep.ChangeJoins': WHATEVER THE INPUT: true; the input reads as it did. -/
def changeJoinsSpec : ChangeSpec := { name := "changeJoins", fn := fun _ => fun
  | [d1, d2, d3] => { results := [.lit (.bool true)], args := [d1, d2, d3] }
  | _ => none }
def changeJoinsRow : OpenClaim := { program := "ytiaoncjkfgebdaa", sum := "6dd1db045fcb49272f4f206794f3d4758ea9c67a0ac2f3a9c50d4069c75e9088", func := "annalist/annalkeep.ChangeJoins", spec := "changeJoins", apart := false }
def ChangeJoinsSaid : Prop := changeJoinsRow.holds Try.pinned (OpenSpec.ofChange changeJoinsSpec)

/-- ITS FALSE NEIGHBOUR: 'it returns false'. Refute it at one input. -/
def changeJoinsWrong : ChangeSpec := { name := "changeJoins", fn := fun _ => fun
  | [d1, d2, d3] => { results := [.lit (.bool false)], args := [d1, d2, d3] }
  | _ => none }
def ChangeJoinsWrongFalsely : Prop := changeJoinsRow.holds Try.pinned (OpenSpec.ofChange changeJoinsWrong)

/-- 'annalkeep.PruneEnds': WHATEVER THE INPUT: true; the input reads as it did. -/
def pruneEndsSpec : ChangeSpec := { name := "pruneEnds", fn := fun _ => fun
  | [d] => { results := [.lit (.bool true)], args := [d] }
  | _ => none }
def pruneEndsRow : OpenClaim := { program := "ytiaoncjkfgebdaa", sum := "6dd1db045fcb49272f4f206794f3d4758ea9c67a0ac2f3a9c50d4069c75e9088", func := "annalist/annalkeep.PruneEnds", spec := "pruneEnds", apart := false }
def PruneEndsSaid : Prop := pruneEndsRow.holds Try.pinned (OpenSpec.ofChange pruneEndsSpec)

/-- ITS FALSE NEIGHBOUR: 'it returns false'. Refute it at one input. -/
def pruneEndsWrong : ChangeSpec := { name := "pruneEnds", fn := fun _ => fun
  | [d] => { results := [.lit (.bool false)], args := [d] }
  | _ => none }
def PruneEndsWrongFalsely : Prop := pruneEndsRow.holds Try.pinned (OpenSpec.ofChange pruneEndsWrong)

/-- 'annalkeep.ChangeNone': WHATEVER THE INPUT: true; the input reads as it did. -/
def changeNoneSpec : ChangeSpec := { name := "changeNone", fn := fun _ => fun
  | [d1, d2, d3] => { results := [.lit (.bool true)], args := [d1, d2, d3] }
  | _ => none }
def changeNoneRow : OpenClaim := { program := "ytiaoncjkfgebdaa", sum := "6dd1db045fcb49272f4f206794f3d4758ea9c67a0ac2f3a9c50d4069c75e9088", func := "annalist/annalkeep.ChangeNone", spec := "changeNone", apart := false }
def ChangeNoneSaid : Prop := changeNoneRow.holds Try.pinned (OpenSpec.ofChange changeNoneSpec)

/-- ITS FALSE NEIGHBOUR: 'it returns false'. Refute it at one input. -/
def changeNoneWrong : ChangeSpec := { name := "changeNone", fn := fun _ => fun
  | [d1, d2, d3] => { results := [.lit (.bool false)], args := [d1, d2, d3] }
  | _ => none }
def ChangeNoneWrongFalsely : Prop := changeNoneRow.holds Try.pinned (OpenSpec.ofChange changeNoneWrong)

/-- 'annalkeep.RunOnce': WHATEVER THE INPUT: true; the input reads as it did. -/
def runOnceSpec : ChangeSpec := { name := "runOnce", fn := fun _ => fun
  | [d1, d2, d3, d4, d5] => { results := [.lit (.bool true)], args := [d1, d2, d3, d4, d5] }
  | _ => none }
def runOnceRow : OpenClaim := { program := "ytiaoncjkfgebdaa", sum := "6dd1db045fcb49272f4f206794f3d4758ea9c67a0ac2f3a9c50d4069c75e9088", func := "annalist/annalkeep.RunOnce", spec := "runOnce", apart := false }
def RunOnceSaid : Prop := runOnceRow.holds Try.pinned (OpenSpec.ofChange runOnceSpec)

/-- ITS FALSE NEIGHBOUR: 'it returns false'. Refute it at one input. -/
def runOnceWrong : ChangeSpec := { name := "runOnce", fn := fun _ => fun
  | [d1, d2, d3, d4, d5] => { results := [.lit (.bool false)], args := [d1, d2, d3, d4, d5] }
  | _ => none }
def RunOnceWrongFalsely : Prop := runOnceRow.holds Try.pinned (OpenSpec.ofChange runOnceWrong)

/-- 'annalkeep.RunFull': WHATEVER THE INPUT: true; the input reads as it did. -/
def runFullSpec : ChangeSpec := { name := "runFull", fn := fun _ => fun
  | [d1, d2, d3] => { results := [.lit (.bool true)], args := [d1, d2, d3] }
  | _ => none }
def runFullRow : OpenClaim := { program := "ytiaoncjkfgebdaa", sum := "6dd1db045fcb49272f4f206794f3d4758ea9c67a0ac2f3a9c50d4069c75e9088", func := "annalist/annalkeep.RunFull", spec := "runFull", unfollowed := true, recurses := true, apart := false }
def RunFullSaid : Prop := runFullRow.holds Try.pinned (OpenSpec.ofChange runFullSpec)

/-- ITS FALSE NEIGHBOUR: 'it returns false'. Refute it at one input. -/
def runFullWrong : ChangeSpec := { name := "runFull", fn := fun _ => fun
  | [d1, d2, d3] => { results := [.lit (.bool false)], args := [d1, d2, d3] }
  | _ => none }
def RunFullWrongFalsely : Prop := runFullRow.holds Try.pinned (OpenSpec.ofChange runFullWrong)

/-- 'annalkeep.RunPast': WHATEVER THE INPUT: true; the input reads as it did. -/
def runPastSpec : ChangeSpec := { name := "runPast", fn := fun _ => fun
  | [d1, d2, d3, d4, d5, d6] => { results := [.lit (.bool true)], args := [d1, d2, d3, d4, d5, d6] }
  | _ => none }
def runPastRow : OpenClaim := { program := "ytiaoncjkfgebdaa", sum := "6dd1db045fcb49272f4f206794f3d4758ea9c67a0ac2f3a9c50d4069c75e9088", func := "annalist/annalkeep.RunPast", spec := "runPast", unfollowed := true, recurses := true, apart := false }
def RunPastSaid : Prop := runPastRow.holds Try.pinned (OpenSpec.ofChange runPastSpec)

/-- ITS FALSE NEIGHBOUR: 'it returns false'. Refute it at one input. -/
def runPastWrong : ChangeSpec := { name := "runPast", fn := fun _ => fun
  | [d1, d2, d3, d4, d5, d6] => { results := [.lit (.bool false)], args := [d1, d2, d3, d4, d5, d6] }
  | _ => none }
def RunPastWrongFalsely : Prop := runPastRow.holds Try.pinned (OpenSpec.ofChange runPastWrong)

/-- 'annalkeep.RunLate': WHATEVER THE INPUT: true; the input reads as it did. -/
def runLateSpec : ChangeSpec := { name := "runLate", fn := fun _ => fun
  | [d1, d2, d3, d4] => { results := [.lit (.bool true)], args := [d1, d2, d3, d4] }
  | _ => none }
def runLateRow : OpenClaim := { program := "ytiaoncjkfgebdaa", sum := "6dd1db045fcb49272f4f206794f3d4758ea9c67a0ac2f3a9c50d4069c75e9088", func := "annalist/annalkeep.RunLate", spec := "runLate", unfollowed := true, recurses := true, apart := false }
def RunLateSaid : Prop := runLateRow.holds Try.pinned (OpenSpec.ofChange runLateSpec)

/-- ITS FALSE NEIGHBOUR: 'it returns false'. Refute it at one input. -/
def runLateWrong : ChangeSpec := { name := "runLate", fn := fun _ => fun
  | [d1, d2, d3, d4] => { results := [.lit (.bool false)], args := [d1, d2, d3, d4] }
  | _ => none }
def RunLateWrongFalsely : Prop := runLateRow.holds Try.pinned (OpenSpec.ofChange runLateWrong)

/-- 'annalkeep.RunSame': WHATEVER THE INPUT: true; the input reads as it did. -/
def runSameSpec : ChangeSpec := { name := "runSame", fn := fun _ => fun
  | [d1, d2, d3, d4, d5, d6] => { results := [.lit (.bool true)], args := [d1, d2, d3, d4, d5, d6] }
  | _ => none }
def runSameRow : OpenClaim := { program := "ytiaoncjkfgebdaa", sum := "6dd1db045fcb49272f4f206794f3d4758ea9c67a0ac2f3a9c50d4069c75e9088", func := "annalist/annalkeep.RunSame", spec := "runSame", unfollowed := true, recurses := true, apart := false }
def RunSameSaid : Prop := runSameRow.holds Try.pinned (OpenSpec.ofChange runSameSpec)

/-- ITS FALSE NEIGHBOUR: 'it returns false'. Refute it at one input. -/
def runSameWrong : ChangeSpec := { name := "runSame", fn := fun _ => fun
  | [d1, d2, d3, d4, d5, d6] => { results := [.lit (.bool false)], args := [d1, d2, d3, d4, d5, d6] }
  | _ => none }
def RunSameWrongFalsely : Prop := runSameRow.holds Try.pinned (OpenSpec.ofChange runSameWrong)

/-- 'annalkeep.ChangeChains': WHATEVER THE INPUT: true; the input reads as it did. -/
def changeChainsSpec : ChangeSpec := { name := "changeChains", fn := fun _ => fun
  | [d1, d2, d3, d4] => { results := [.lit (.bool true)], args := [d1, d2, d3, d4] }
  | _ => none }
def changeChainsRow : OpenClaim := { program := "ytiaoncjkfgebdaa", sum := "6dd1db045fcb49272f4f206794f3d4758ea9c67a0ac2f3a9c50d4069c75e9088", func := "annalist/annalkeep.ChangeChains", spec := "changeChains", apart := false }
def ChangeChainsSaid : Prop := changeChainsRow.holds Try.pinned (OpenSpec.ofChange changeChainsSpec)

/-- ITS FALSE NEIGHBOUR: 'it returns false'. Refute it at one input. -/
def changeChainsWrong : ChangeSpec := { name := "changeChains", fn := fun _ => fun
  | [d1, d2, d3, d4] => { results := [.lit (.bool false)], args := [d1, d2, d3, d4] }
  | _ => none }
def ChangeChainsWrongFalsely : Prop := changeChainsRow.holds Try.pinned (OpenSpec.ofChange changeChainsWrong)

/-- 'annalkeep.RunNow': WHATEVER THE INPUT: true; the input reads as it did. -/
def runNowSpec : ChangeSpec := { name := "runNow", fn := fun _ => fun
  | [d1, d2, d3, d4, d5] => { results := [.lit (.bool true)], args := [d1, d2, d3, d4, d5] }
  | _ => none }
def runNowRow : OpenClaim := { program := "ytiaoncjkfgebdaa", sum := "6dd1db045fcb49272f4f206794f3d4758ea9c67a0ac2f3a9c50d4069c75e9088", func := "annalist/annalkeep.RunNow", spec := "runNow", unfollowed := true, recurses := true, apart := false }
def RunNowSaid : Prop := runNowRow.holds Try.pinned (OpenSpec.ofChange runNowSpec)

/-- ITS FALSE NEIGHBOUR: 'it returns false'. Refute it at one input. -/
def runNowWrong : ChangeSpec := { name := "runNow", fn := fun _ => fun
  | [d1, d2, d3, d4, d5] => { results := [.lit (.bool false)], args := [d1, d2, d3, d4, d5] }
  | _ => none }
def RunNowWrongFalsely : Prop := runNowRow.holds Try.pinned (OpenSpec.ofChange runNowWrong)

/-- 'annalkeep.PruneReads': WHATEVER THE INPUT: true; the input reads as it did. -/
def pruneReadsSpec : ChangeSpec := { name := "pruneReads", fn := fun _ => fun
  | [d1, d2, d3, d4, d5, d6] => { results := [.lit (.bool true)], args := [d1, d2, d3, d4, d5, d6] }
  | _ => none }
def pruneReadsRow : OpenClaim := { program := "ytiaoncjkfgebdaa", sum := "6dd1db045fcb49272f4f206794f3d4758ea9c67a0ac2f3a9c50d4069c75e9088", func := "annalist/annalkeep.PruneReads", spec := "pruneReads", unfollowed := true, recurses := true, apart := false }
def PruneReadsSaid : Prop := pruneReadsRow.holds Try.pinned (OpenSpec.ofChange pruneReadsSpec)

/-- ITS FALSE NEIGHBOUR: 'it returns false'. Refute it at one input. -/
def pruneReadsWrong : ChangeSpec := { name := "pruneReads", fn := fun _ => fun
  | [d1, d2, d3, d4, d5, d6] => { results := [.lit (.bool false)], args := [d1, d2, d3, d4, d5, d6] }
  | _ => none }
def PruneReadsWrongFalsely : Prop := pruneReadsRow.holds Try.pinned (OpenSpec.ofChange pruneReadsWrong)

/-- 'annalkeep.FileGets': WHATEVER THE INPUT: true; the input reads as it did. -/
def fileGetsSpec : ChangeSpec := { name := "fileGets", fn := fun _ => fun
  | [d1, d2, d3, d4, d5, d6] => { results := [.lit (.bool true)], args := [d1, d2, d3, d4, d5, d6] }
  | _ => none }
def fileGetsRow : OpenClaim := { program := "ytiaoncjkfgebdaa", sum := "6dd1db045fcb49272f4f206794f3d4758ea9c67a0ac2f3a9c50d4069c75e9088", func := "annalist/annalkeep.FileGets", spec := "fileGets", unfollowed := true, recurses := true, apart := false }
def FileGetsSaid : Prop := fileGetsRow.holds Try.pinned (OpenSpec.ofChange fileGetsSpec)

/-- ITS FALSE NEIGHBOUR: 'it returns false'. Refute it at one input. -/
def fileGetsWrong : ChangeSpec := { name := "fileGets", fn := fun _ => fun
  | [d1, d2, d3, d4, d5, d6] => { results := [.lit (.bool false)], args := [d1, d2, d3, d4, d5, d6] }
  | _ => none }
def FileGetsWrongFalsely : Prop := fileGetsRow.holds Try.pinned (OpenSpec.ofChange fileGetsWrong)

/-- 'annalkeep.FileApart': WHATEVER THE INPUT: true; the input reads as it did. -/
def fileApartSpec : ChangeSpec := { name := "fileApart", fn := fun _ => fun
  | [d1, d2, d3, d4, d5] => { results := [.lit (.bool true)], args := [d1, d2, d3, d4, d5] }
  | _ => none }
def fileApartRow : OpenClaim := { program := "ytiaoncjkfgebdaa", sum := "6dd1db045fcb49272f4f206794f3d4758ea9c67a0ac2f3a9c50d4069c75e9088", func := "annalist/annalkeep.FileApart", spec := "fileApart", unfollowed := true, recurses := true, apart := false }
def FileApartSaid : Prop := fileApartRow.holds Try.pinned (OpenSpec.ofChange fileApartSpec)

/-- ITS FALSE NEIGHBOUR: 'it returns false'. Refute it at one input. -/
def fileApartWrong : ChangeSpec := { name := "fileApart", fn := fun _ => fun
  | [d1, d2, d3, d4, d5] => { results := [.lit (.bool false)], args := [d1, d2, d3, d4, d5] }
  | _ => none }
def FileApartWrongFalsely : Prop := fileApartRow.holds Try.pinned (OpenSpec.ofChange fileApartWrong)

/-- 'annalkeep.FileBlocks': WHATEVER THE INPUT: true; the input reads as it did. -/
def fileBlocksSpec : ChangeSpec := { name := "fileBlocks", fn := fun _ => fun
  | [d1, d2, d3, d4, d5, d6] => { results := [.lit (.bool true)], args := [d1, d2, d3, d4, d5, d6] }
  | _ => none }
def fileBlocksRow : OpenClaim := { program := "ytiaoncjkfgebdaa", sum := "6dd1db045fcb49272f4f206794f3d4758ea9c67a0ac2f3a9c50d4069c75e9088", func := "annalist/annalkeep.FileBlocks", spec := "fileBlocks", unfollowed := true, recurses := true, apart := false }
def FileBlocksSaid : Prop := fileBlocksRow.holds Try.pinned (OpenSpec.ofChange fileBlocksSpec)

/-- ITS FALSE NEIGHBOUR: 'it returns false'. Refute it at one input. -/
def fileBlocksWrong : ChangeSpec := { name := "fileBlocks", fn := fun _ => fun
  | [d1, d2, d3, d4, d5, d6] => { results := [.lit (.bool false)], args := [d1, d2, d3, d4, d5, d6] }
  | _ => none }
def FileBlocksWrongFalsely : Prop := fileBlocksRow.holds Try.pinned (OpenSpec.ofChange fileBlocksWrong)

/-- 'annalkeep.FilePatches': WHATEVER THE INPUT: true; the input reads as it did. -/
def filePatchesSpec : ChangeSpec := { name := "filePatches", fn := fun _ => fun
  | [d1, d2, d3, d4, d5, d6] => { results := [.lit (.bool true)], args := [d1, d2, d3, d4, d5, d6] }
  | _ => none }
def filePatchesRow : OpenClaim := { program := "ytiaoncjkfgebdaa", sum := "6dd1db045fcb49272f4f206794f3d4758ea9c67a0ac2f3a9c50d4069c75e9088", func := "annalist/annalkeep.FilePatches", spec := "filePatches", unfollowed := true, recurses := true, apart := false }
def FilePatchesSaid : Prop := filePatchesRow.holds Try.pinned (OpenSpec.ofChange filePatchesSpec)

/-- ITS FALSE NEIGHBOUR: 'it returns false'. Refute it at one input. -/
def filePatchesWrong : ChangeSpec := { name := "filePatches", fn := fun _ => fun
  | [d1, d2, d3, d4, d5, d6] => { results := [.lit (.bool false)], args := [d1, d2, d3, d4, d5, d6] }
  | _ => none }
def FilePatchesWrongFalsely : Prop := filePatchesRow.holds Try.pinned (OpenSpec.ofChange filePatchesWrong)

/-- 'annalkeep.FileSame': WHATEVER THE INPUT: true; the input reads as it did. -/
def fileSameSpec : ChangeSpec := { name := "fileSame", fn := fun _ => fun
  | [d1, d2, d3, d4] => { results := [.lit (.bool true)], args := [d1, d2, d3, d4] }
  | _ => none }
def fileSameRow : OpenClaim := { program := "ytiaoncjkfgebdaa", sum := "6dd1db045fcb49272f4f206794f3d4758ea9c67a0ac2f3a9c50d4069c75e9088", func := "annalist/annalkeep.FileSame", spec := "fileSame", unfollowed := true, recurses := true, apart := false }
def FileSameSaid : Prop := fileSameRow.holds Try.pinned (OpenSpec.ofChange fileSameSpec)

/-- ITS FALSE NEIGHBOUR: 'it returns false'. Refute it at one input. -/
def fileSameWrong : ChangeSpec := { name := "fileSame", fn := fun _ => fun
  | [d1, d2, d3, d4] => { results := [.lit (.bool false)], args := [d1, d2, d3, d4] }
  | _ => none }
def FileSameWrongFalsely : Prop := fileSameRow.holds Try.pinned (OpenSpec.ofChange fileSameWrong)

/-- 'annalkeep.RunOwn': WHATEVER THE INPUT: true; the input reads as it did. -/
def runOwnSpec : ChangeSpec := { name := "runOwn", fn := fun _ => fun
  | [d1, d2, d3, d4, d5] => { results := [.lit (.bool true)], args := [d1, d2, d3, d4, d5] }
  | _ => none }
def runOwnRow : OpenClaim := { program := "ytiaoncjkfgebdaa", sum := "6dd1db045fcb49272f4f206794f3d4758ea9c67a0ac2f3a9c50d4069c75e9088", func := "annalist/annalkeep.RunOwn", spec := "runOwn", unfollowed := true, recurses := true, apart := false }
def RunOwnSaid : Prop := runOwnRow.holds Try.pinned (OpenSpec.ofChange runOwnSpec)

/-- ITS FALSE NEIGHBOUR: 'it returns false'. Refute it at one input. -/
def runOwnWrong : ChangeSpec := { name := "runOwn", fn := fun _ => fun
  | [d1, d2, d3, d4, d5] => { results := [.lit (.bool false)], args := [d1, d2, d3, d4, d5] }
  | _ => none }
def RunOwnWrongFalsely : Prop := runOwnRow.holds Try.pinned (OpenSpec.ofChange runOwnWrong)

/-- 'annalkeep.SnapNames': WHATEVER THE INPUT: true; the input reads as it did. -/
def snapNamesSpec : ChangeSpec := { name := "snapNames", fn := fun _ => fun
  | [d1, d2, d3, d4, d5] => { results := [.lit (.bool true)], args := [d1, d2, d3, d4, d5] }
  | _ => none }
def snapNamesRow : OpenClaim := { program := "ytiaoncjkfgebdaa", sum := "6dd1db045fcb49272f4f206794f3d4758ea9c67a0ac2f3a9c50d4069c75e9088", func := "annalist/annalkeep.SnapNames", spec := "snapNames", inPlace := ["slices.overlaps[annalist/api.Snap]"], unfollowed := true, recurses := true, apart := false }
def SnapNamesSaid : Prop := snapNamesRow.holds Try.pinned (OpenSpec.ofChange snapNamesSpec)

/-- ITS FALSE NEIGHBOUR: 'it returns false'. Refute it at one input. -/
def snapNamesWrong : ChangeSpec := { name := "snapNames", fn := fun _ => fun
  | [d1, d2, d3, d4, d5] => { results := [.lit (.bool false)], args := [d1, d2, d3, d4, d5] }
  | _ => none }
def SnapNamesWrongFalsely : Prop := snapNamesRow.holds Try.pinned (OpenSpec.ofChange snapNamesWrong)

/-- 'annalkeep.ChangeRolls': WHATEVER THE INPUT: true; the input reads as it did. -/
def changeRollsSpec : ChangeSpec := { name := "changeRolls", fn := fun _ => fun
  | [d1, d2, d3, d4] => { results := [.lit (.bool true)], args := [d1, d2, d3, d4] }
  | _ => none }
def changeRollsRow : OpenClaim := { program := "ytiaoncjkfgebdaa", sum := "6dd1db045fcb49272f4f206794f3d4758ea9c67a0ac2f3a9c50d4069c75e9088", func := "annalist/annalkeep.ChangeRolls", spec := "changeRolls", unfollowed := true, recurses := true, apart := false }
def ChangeRollsSaid : Prop := changeRollsRow.holds Try.pinned (OpenSpec.ofChange changeRollsSpec)

/-- ITS FALSE NEIGHBOUR: 'it returns false'. Refute it at one input. -/
def changeRollsWrong : ChangeSpec := { name := "changeRolls", fn := fun _ => fun
  | [d1, d2, d3, d4] => { results := [.lit (.bool false)], args := [d1, d2, d3, d4] }
  | _ => none }
def ChangeRollsWrongFalsely : Prop := changeRollsRow.holds Try.pinned (OpenSpec.ofChange changeRollsWrong)

/-- 'annalkeep.ChangeUndone': WHATEVER THE INPUT: true; the input reads as it did. -/
def changeUndoneSpec : ChangeSpec := { name := "changeUndone", fn := fun _ => fun
  | [d1, d2, d3] => { results := [.lit (.bool true)], args := [d1, d2, d3] }
  | _ => none }
def changeUndoneRow : OpenClaim := { program := "ytiaoncjkfgebdaa", sum := "6dd1db045fcb49272f4f206794f3d4758ea9c67a0ac2f3a9c50d4069c75e9088", func := "annalist/annalkeep.ChangeUndone", spec := "changeUndone", unfollowed := true, recurses := true, apart := false }
def ChangeUndoneSaid : Prop := changeUndoneRow.holds Try.pinned (OpenSpec.ofChange changeUndoneSpec)

/-- ITS FALSE NEIGHBOUR: 'it returns false'. Refute it at one input. -/
def changeUndoneWrong : ChangeSpec := { name := "changeUndone", fn := fun _ => fun
  | [d1, d2, d3] => { results := [.lit (.bool false)], args := [d1, d2, d3] }
  | _ => none }
def ChangeUndoneWrongFalsely : Prop := changeUndoneRow.holds Try.pinned (OpenSpec.ofChange changeUndoneWrong)

/-- 'annalkeep.FileBounds': WHATEVER THE INPUT: true; the input reads as it did. -/
def fileBoundsSpec : ChangeSpec := { name := "fileBounds", fn := fun _ => fun
  | [d1, d2, d3] => { results := [.lit (.bool true)], args := [d1, d2, d3] }
  | _ => none }
def fileBoundsRow : OpenClaim := { program := "ytiaoncjkfgebdaa", sum := "6dd1db045fcb49272f4f206794f3d4758ea9c67a0ac2f3a9c50d4069c75e9088", func := "annalist/annalkeep.FileBounds", spec := "fileBounds", inPlace := ["internal/abi.NoEscape", "internal/bytealg.MakeNoZero"], unfollowed := true, recurses := true, apart := false }
def FileBoundsSaid : Prop := fileBoundsRow.holds Try.pinned (OpenSpec.ofChange fileBoundsSpec)

/-- ITS FALSE NEIGHBOUR: 'it returns false'. Refute it at one input. -/
def fileBoundsWrong : ChangeSpec := { name := "fileBounds", fn := fun _ => fun
  | [d1, d2, d3] => { results := [.lit (.bool false)], args := [d1, d2, d3] }
  | _ => none }
def FileBoundsWrongFalsely : Prop := fileBoundsRow.holds Try.pinned (OpenSpec.ofChange fileBoundsWrong)

/-- 'annalkeep.SnapKeeps': WHATEVER THE INPUT: true; the input reads as it did. -/
def snapKeepsSpec : ChangeSpec := { name := "snapKeeps", fn := fun _ => fun
  | [d1, d2, d3, d4, d5] => { results := [.lit (.bool true)], args := [d1, d2, d3, d4, d5] }
  | _ => none }
def snapKeepsRow : OpenClaim := { program := "ytiaoncjkfgebdaa", sum := "6dd1db045fcb49272f4f206794f3d4758ea9c67a0ac2f3a9c50d4069c75e9088", func := "annalist/annalkeep.SnapKeeps", spec := "snapKeeps", unfollowed := true, recurses := true, apart := false }
def SnapKeepsSaid : Prop := snapKeepsRow.holds Try.pinned (OpenSpec.ofChange snapKeepsSpec)

/-- ITS FALSE NEIGHBOUR: 'it returns false'. Refute it at one input. -/
def snapKeepsWrong : ChangeSpec := { name := "snapKeeps", fn := fun _ => fun
  | [d1, d2, d3, d4, d5] => { results := [.lit (.bool false)], args := [d1, d2, d3, d4, d5] }
  | _ => none }
def SnapKeepsWrongFalsely : Prop := snapKeepsRow.holds Try.pinned (OpenSpec.ofChange snapKeepsWrong)

/- THE SECOND FORM. 'bulk': how many values and letters a reading holds, each counted each time it is reached (what is shared counts as often as it is met; a slice's spare places count too). A statement '..UptoSaid' is the law's where the arguments, and the package variables that the reading takes, are together of bulk at most 1048576: NARROWER than '..Said'. Prove '..Said' where nothing that the law and all that it calls make is longer than what came in: it says more and counts as full. Else prove '..UptoSaid'. A law counts once. -/
mutual
def uptoBulk {H : Type} : DataW H → Nat
  | .lit (.string bytes) => bytes.length + 1
  | .lit _ => 1
  | .nil => 1
  | .ptr d => uptoBulk d + 1
  | .slice elems spare => uptoBulkAll elems + uptoBulkAll spare + 1
  | .agg parts => uptoBulkAll parts + 1
  | .iface _ d => uptoBulk d + 1
  | .map entries => uptoBulkEntries entries + 1
  | .held _ => 1
def uptoBulkAll {H : Type} : List (DataW H) → Nat
  | [] => 0
  | d :: r => uptoBulk d + uptoBulkAll r
def uptoBulkEntries {H : Type} : List (Lit × DataW H) → Nat
  | [] => 0
  | x :: r => uptoBulkEntry x + uptoBulkEntries r
def uptoBulkEntry {H : Type} : Lit × DataW H → Nat
  | (.string bytes, d) => bytes.length + uptoBulk d + 1
  | (_, d) => uptoBulk d + 1
 end
def uptoSmall : (H : Type) → List (DataW H) → Bool := fun _ ds => decide (uptoBulkAll ds ≤ 1048576)
def OpenSpec.upto (s : _root_.Go.ChangeSpec) : _root_.Go.OpenSpec := { _root_.Go.OpenSpec.ofChange s with cond := some uptoSmall }

/-- 'annalkeep.RunBetween', WHERE WHAT IT READS IS OF BULK AT MOST 1048576: true; the input reads as it did. -/
def runBetweenUptoRow : OpenClaim := { program := "ytiaoncjkfgebdaa", sum := "6dd1db045fcb49272f4f206794f3d4758ea9c67a0ac2f3a9c50d4069c75e9088", func := "annalist/annalkeep.RunBetween", spec := "runBetween", apart := false, narrowed := true }
def RunBetweenUptoSaid : Prop := runBetweenUptoRow.holds Try.pinned (OpenSpec.upto runBetweenSpec)

/-- 'annalkeep.RunPieces', WHERE WHAT IT READS IS OF BULK AT MOST 1048576: true; the input reads as it did. -/
def runPiecesUptoRow : OpenClaim := { program := "ytiaoncjkfgebdaa", sum := "6dd1db045fcb49272f4f206794f3d4758ea9c67a0ac2f3a9c50d4069c75e9088", func := "annalist/annalkeep.RunPieces", spec := "runPieces", unfollowed := true, recurses := true, apart := false, narrowed := true }
def RunPiecesUptoSaid : Prop := runPiecesUptoRow.holds Try.pinned (OpenSpec.upto runPiecesSpec)

/-- 'annalkeep.ChangeJoins', WHERE WHAT IT READS IS OF BULK AT MOST 1048576: true; the input reads as it did. -/
def changeJoinsUptoRow : OpenClaim := { program := "ytiaoncjkfgebdaa", sum := "6dd1db045fcb49272f4f206794f3d4758ea9c67a0ac2f3a9c50d4069c75e9088", func := "annalist/annalkeep.ChangeJoins", spec := "changeJoins", apart := false, narrowed := true }
def ChangeJoinsUptoSaid : Prop := changeJoinsUptoRow.holds Try.pinned (OpenSpec.upto changeJoinsSpec)

/-- 'annalkeep.PruneEnds', WHERE WHAT IT READS IS OF BULK AT MOST 1048576: true; the input reads as it did. -/
def pruneEndsUptoRow : OpenClaim := { program := "ytiaoncjkfgebdaa", sum := "6dd1db045fcb49272f4f206794f3d4758ea9c67a0ac2f3a9c50d4069c75e9088", func := "annalist/annalkeep.PruneEnds", spec := "pruneEnds", apart := false, narrowed := true }
def PruneEndsUptoSaid : Prop := pruneEndsUptoRow.holds Try.pinned (OpenSpec.upto pruneEndsSpec)

/-- 'annalkeep.ChangeNone', WHERE WHAT IT READS IS OF BULK AT MOST 1048576: true; the input reads as it did. -/
def changeNoneUptoRow : OpenClaim := { program := "ytiaoncjkfgebdaa", sum := "6dd1db045fcb49272f4f206794f3d4758ea9c67a0ac2f3a9c50d4069c75e9088", func := "annalist/annalkeep.ChangeNone", spec := "changeNone", apart := false, narrowed := true }
def ChangeNoneUptoSaid : Prop := changeNoneUptoRow.holds Try.pinned (OpenSpec.upto changeNoneSpec)

/-- 'annalkeep.RunOnce', WHERE WHAT IT READS IS OF BULK AT MOST 1048576: true; the input reads as it did. -/
def runOnceUptoRow : OpenClaim := { program := "ytiaoncjkfgebdaa", sum := "6dd1db045fcb49272f4f206794f3d4758ea9c67a0ac2f3a9c50d4069c75e9088", func := "annalist/annalkeep.RunOnce", spec := "runOnce", apart := false, narrowed := true }
def RunOnceUptoSaid : Prop := runOnceUptoRow.holds Try.pinned (OpenSpec.upto runOnceSpec)

/-- 'annalkeep.RunFull', WHERE WHAT IT READS IS OF BULK AT MOST 1048576: true; the input reads as it did. -/
def runFullUptoRow : OpenClaim := { program := "ytiaoncjkfgebdaa", sum := "6dd1db045fcb49272f4f206794f3d4758ea9c67a0ac2f3a9c50d4069c75e9088", func := "annalist/annalkeep.RunFull", spec := "runFull", unfollowed := true, recurses := true, apart := false, narrowed := true }
def RunFullUptoSaid : Prop := runFullUptoRow.holds Try.pinned (OpenSpec.upto runFullSpec)

/-- 'annalkeep.RunPast', WHERE WHAT IT READS IS OF BULK AT MOST 1048576: true; the input reads as it did. -/
def runPastUptoRow : OpenClaim := { program := "ytiaoncjkfgebdaa", sum := "6dd1db045fcb49272f4f206794f3d4758ea9c67a0ac2f3a9c50d4069c75e9088", func := "annalist/annalkeep.RunPast", spec := "runPast", unfollowed := true, recurses := true, apart := false, narrowed := true }
def RunPastUptoSaid : Prop := runPastUptoRow.holds Try.pinned (OpenSpec.upto runPastSpec)

/-- 'annalkeep.RunLate', WHERE WHAT IT READS IS OF BULK AT MOST 1048576: true; the input reads as it did. -/
def runLateUptoRow : OpenClaim := { program := "ytiaoncjkfgebdaa", sum := "6dd1db045fcb49272f4f206794f3d4758ea9c67a0ac2f3a9c50d4069c75e9088", func := "annalist/annalkeep.RunLate", spec := "runLate", unfollowed := true, recurses := true, apart := false, narrowed := true }
def RunLateUptoSaid : Prop := runLateUptoRow.holds Try.pinned (OpenSpec.upto runLateSpec)

/-- 'annalkeep.RunSame', WHERE WHAT IT READS IS OF BULK AT MOST 1048576: true; the input reads as it did. -/
def runSameUptoRow : OpenClaim := { program := "ytiaoncjkfgebdaa", sum := "6dd1db045fcb49272f4f206794f3d4758ea9c67a0ac2f3a9c50d4069c75e9088", func := "annalist/annalkeep.RunSame", spec := "runSame", unfollowed := true, recurses := true, apart := false, narrowed := true }
def RunSameUptoSaid : Prop := runSameUptoRow.holds Try.pinned (OpenSpec.upto runSameSpec)

/-- 'annalkeep.ChangeChains', WHERE WHAT IT READS IS OF BULK AT MOST 1048576: true; the input reads as it did. -/
def changeChainsUptoRow : OpenClaim := { program := "ytiaoncjkfgebdaa", sum := "6dd1db045fcb49272f4f206794f3d4758ea9c67a0ac2f3a9c50d4069c75e9088", func := "annalist/annalkeep.ChangeChains", spec := "changeChains", apart := false, narrowed := true }
def ChangeChainsUptoSaid : Prop := changeChainsUptoRow.holds Try.pinned (OpenSpec.upto changeChainsSpec)

/-- 'annalkeep.RunNow', WHERE WHAT IT READS IS OF BULK AT MOST 1048576: true; the input reads as it did. -/
def runNowUptoRow : OpenClaim := { program := "ytiaoncjkfgebdaa", sum := "6dd1db045fcb49272f4f206794f3d4758ea9c67a0ac2f3a9c50d4069c75e9088", func := "annalist/annalkeep.RunNow", spec := "runNow", unfollowed := true, recurses := true, apart := false, narrowed := true }
def RunNowUptoSaid : Prop := runNowUptoRow.holds Try.pinned (OpenSpec.upto runNowSpec)

/-- 'annalkeep.PruneReads', WHERE WHAT IT READS IS OF BULK AT MOST 1048576: true; the input reads as it did. -/
def pruneReadsUptoRow : OpenClaim := { program := "ytiaoncjkfgebdaa", sum := "6dd1db045fcb49272f4f206794f3d4758ea9c67a0ac2f3a9c50d4069c75e9088", func := "annalist/annalkeep.PruneReads", spec := "pruneReads", unfollowed := true, recurses := true, apart := false, narrowed := true }
def PruneReadsUptoSaid : Prop := pruneReadsUptoRow.holds Try.pinned (OpenSpec.upto pruneReadsSpec)

/-- 'annalkeep.FileGets', WHERE WHAT IT READS IS OF BULK AT MOST 1048576: true; the input reads as it did. -/
def fileGetsUptoRow : OpenClaim := { program := "ytiaoncjkfgebdaa", sum := "6dd1db045fcb49272f4f206794f3d4758ea9c67a0ac2f3a9c50d4069c75e9088", func := "annalist/annalkeep.FileGets", spec := "fileGets", unfollowed := true, recurses := true, apart := false, narrowed := true }
def FileGetsUptoSaid : Prop := fileGetsUptoRow.holds Try.pinned (OpenSpec.upto fileGetsSpec)

/-- 'annalkeep.FileApart', WHERE WHAT IT READS IS OF BULK AT MOST 1048576: true; the input reads as it did. -/
def fileApartUptoRow : OpenClaim := { program := "ytiaoncjkfgebdaa", sum := "6dd1db045fcb49272f4f206794f3d4758ea9c67a0ac2f3a9c50d4069c75e9088", func := "annalist/annalkeep.FileApart", spec := "fileApart", unfollowed := true, recurses := true, apart := false, narrowed := true }
def FileApartUptoSaid : Prop := fileApartUptoRow.holds Try.pinned (OpenSpec.upto fileApartSpec)

/-- 'annalkeep.FileBlocks', WHERE WHAT IT READS IS OF BULK AT MOST 1048576: true; the input reads as it did. -/
def fileBlocksUptoRow : OpenClaim := { program := "ytiaoncjkfgebdaa", sum := "6dd1db045fcb49272f4f206794f3d4758ea9c67a0ac2f3a9c50d4069c75e9088", func := "annalist/annalkeep.FileBlocks", spec := "fileBlocks", unfollowed := true, recurses := true, apart := false, narrowed := true }
def FileBlocksUptoSaid : Prop := fileBlocksUptoRow.holds Try.pinned (OpenSpec.upto fileBlocksSpec)

/-- 'annalkeep.FilePatches', WHERE WHAT IT READS IS OF BULK AT MOST 1048576: true; the input reads as it did. -/
def filePatchesUptoRow : OpenClaim := { program := "ytiaoncjkfgebdaa", sum := "6dd1db045fcb49272f4f206794f3d4758ea9c67a0ac2f3a9c50d4069c75e9088", func := "annalist/annalkeep.FilePatches", spec := "filePatches", unfollowed := true, recurses := true, apart := false, narrowed := true }
def FilePatchesUptoSaid : Prop := filePatchesUptoRow.holds Try.pinned (OpenSpec.upto filePatchesSpec)

/-- 'annalkeep.FileSame', WHERE WHAT IT READS IS OF BULK AT MOST 1048576: true; the input reads as it did. -/
def fileSameUptoRow : OpenClaim := { program := "ytiaoncjkfgebdaa", sum := "6dd1db045fcb49272f4f206794f3d4758ea9c67a0ac2f3a9c50d4069c75e9088", func := "annalist/annalkeep.FileSame", spec := "fileSame", unfollowed := true, recurses := true, apart := false, narrowed := true }
def FileSameUptoSaid : Prop := fileSameUptoRow.holds Try.pinned (OpenSpec.upto fileSameSpec)

/-- 'annalkeep.RunOwn', WHERE WHAT IT READS IS OF BULK AT MOST 1048576: true; the input reads as it did. -/
def runOwnUptoRow : OpenClaim := { program := "ytiaoncjkfgebdaa", sum := "6dd1db045fcb49272f4f206794f3d4758ea9c67a0ac2f3a9c50d4069c75e9088", func := "annalist/annalkeep.RunOwn", spec := "runOwn", unfollowed := true, recurses := true, apart := false, narrowed := true }
def RunOwnUptoSaid : Prop := runOwnUptoRow.holds Try.pinned (OpenSpec.upto runOwnSpec)

/-- 'annalkeep.SnapNames', WHERE WHAT IT READS IS OF BULK AT MOST 1048576: true; the input reads as it did. -/
def snapNamesUptoRow : OpenClaim := { program := "ytiaoncjkfgebdaa", sum := "6dd1db045fcb49272f4f206794f3d4758ea9c67a0ac2f3a9c50d4069c75e9088", func := "annalist/annalkeep.SnapNames", spec := "snapNames", inPlace := ["slices.overlaps[annalist/api.Snap]"], unfollowed := true, recurses := true, apart := false, narrowed := true }
def SnapNamesUptoSaid : Prop := snapNamesUptoRow.holds Try.pinned (OpenSpec.upto snapNamesSpec)

/-- 'annalkeep.ChangeRolls', WHERE WHAT IT READS IS OF BULK AT MOST 1048576: true; the input reads as it did. -/
def changeRollsUptoRow : OpenClaim := { program := "ytiaoncjkfgebdaa", sum := "6dd1db045fcb49272f4f206794f3d4758ea9c67a0ac2f3a9c50d4069c75e9088", func := "annalist/annalkeep.ChangeRolls", spec := "changeRolls", unfollowed := true, recurses := true, apart := false, narrowed := true }
def ChangeRollsUptoSaid : Prop := changeRollsUptoRow.holds Try.pinned (OpenSpec.upto changeRollsSpec)

/-- 'annalkeep.ChangeUndone', WHERE WHAT IT READS IS OF BULK AT MOST 1048576: true; the input reads as it did. -/
def changeUndoneUptoRow : OpenClaim := { program := "ytiaoncjkfgebdaa", sum := "6dd1db045fcb49272f4f206794f3d4758ea9c67a0ac2f3a9c50d4069c75e9088", func := "annalist/annalkeep.ChangeUndone", spec := "changeUndone", unfollowed := true, recurses := true, apart := false, narrowed := true }
def ChangeUndoneUptoSaid : Prop := changeUndoneUptoRow.holds Try.pinned (OpenSpec.upto changeUndoneSpec)

/-- 'annalkeep.FileBounds', WHERE WHAT IT READS IS OF BULK AT MOST 1048576: true; the input reads as it did. -/
def fileBoundsUptoRow : OpenClaim := { program := "ytiaoncjkfgebdaa", sum := "6dd1db045fcb49272f4f206794f3d4758ea9c67a0ac2f3a9c50d4069c75e9088", func := "annalist/annalkeep.FileBounds", spec := "fileBounds", inPlace := ["internal/abi.NoEscape", "internal/bytealg.MakeNoZero"], unfollowed := true, recurses := true, apart := false, narrowed := true }
def FileBoundsUptoSaid : Prop := fileBoundsUptoRow.holds Try.pinned (OpenSpec.upto fileBoundsSpec)

/-- 'annalkeep.SnapKeeps', WHERE WHAT IT READS IS OF BULK AT MOST 1048576: true; the input reads as it did. -/
def snapKeepsUptoRow : OpenClaim := { program := "ytiaoncjkfgebdaa", sum := "6dd1db045fcb49272f4f206794f3d4758ea9c67a0ac2f3a9c50d4069c75e9088", func := "annalist/annalkeep.SnapKeeps", spec := "snapKeeps", unfollowed := true, recurses := true, apart := false, narrowed := true }
def SnapKeepsUptoSaid : Prop := snapKeepsUptoRow.holds Try.pinned (OpenSpec.upto snapKeepsSpec)

end Rows
end Go.Proofs.Ytiaoncjkfgebdaa
