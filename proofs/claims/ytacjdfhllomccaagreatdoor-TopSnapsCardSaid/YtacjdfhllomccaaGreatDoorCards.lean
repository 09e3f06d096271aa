/-
  DERIVED. GIVEN WITH THE SEED: THE CARDS: each row of YtacjdfhllomccaaGreatDoorRows.lean that lists a variable, with what it lists TIED to the program's text (the seventh form; the later family's looks); each row that meets fmt, with fmt's text TOLD by the authors' own Lean function (tested against real Go, not proved from fmt's source: count such statements apart). THE CARD IS WHAT COUNTS. Prove the row's statement (the work); the ties are given (YtacjdfhllomccaaGreatDoorTie.lean); close each card by the builder's one call (the guide's Derived/Test/ToyasCard.lean, 'card_holds'). Laid BY PROGRAM, IN A SANDBOX (cutbox-door.mjs). By AI agents, Wed Nov 11 2026. No macro, syntax, notation, axiom, sorry.
-/
import Derived.Test.YtacjdfhllomccaaGreatDoorRows
import GoSem.ClaimSeven
namespace Go.Proofs.YtacjdfhllomccaaGreatDoor
namespace Rows

/-- THE TIED CARD OF 'annalkeep.FsBounds'. -/
def fsBoundsCard : Claim7 := { stood := { row := fsBoundsRow, standIns := [], harness := (true, "f12f88a231c55008dc8d610fc056e6719ef23f3b7f623d5b52de5ca5e98e9327"), looks := true }, kinds := [], alts := [], laidByText := true, laidKinds := [.data, .data, .data, .data, .sentinel, .sentinel, .pinned], laidTests := true, laidLooks := .later }
def FsBoundsCardSaid : Prop := Claim7.holds Tryz.pinned (.plain (OpenSpec.ofChange fsBoundsSpec)) fsBoundsCard

/-- THE TIED CARD OF 'annalkeep.FsWrites'. -/
def fsWritesCard : Claim7 := { stood := { row := fsWritesRow, standIns := [], harness := (true, "f12f88a231c55008dc8d610fc056e6719ef23f3b7f623d5b52de5ca5e98e9327"), looks := true }, kinds := [], alts := [], laidByText := true, laidKinds := [.data, .data, .data, .data, .sentinel, .sentinel, .pinned], laidTests := true, laidLooks := .later }
def FsWritesCardSaid : Prop := Claim7.holds Tryz.pinned (.plain (OpenSpec.ofChange fsWritesSpec)) fsWritesCard

/-- THE TIED CARD OF 'annalkeep.FsTwice'. -/
def fsTwiceCard : Claim7 := { stood := { row := fsTwiceRow, standIns := [], harness := (true, "f12f88a231c55008dc8d610fc056e6719ef23f3b7f623d5b52de5ca5e98e9327"), looks := true }, kinds := [], alts := [], laidByText := true, laidKinds := [.data, .data, .data, .data, .sentinel, .sentinel, .pinned], laidTests := true, laidLooks := .later }
def FsTwiceCardSaid : Prop := Claim7.holds Tryz.pinned (.plain (OpenSpec.ofChange fsTwiceSpec)) fsTwiceCard

/-- THE TIED CARD OF 'annalkeep.FsRecords'. -/
def fsRecordsCard : Claim7 := { stood := { row := fsRecordsRow, standIns := [], harness := (true, "f12f88a231c55008dc8d610fc056e6719ef23f3b7f623d5b52de5ca5e98e9327"), looks := true }, kinds := [], alts := [], laidByText := true, laidKinds := [.data, .data, .data, .data, .sentinel, .sentinel, .pinned], laidTests := true, laidLooks := .later }
def FsRecordsCardSaid : Prop := Claim7.holds Tryz.pinned (.plain (OpenSpec.ofChange fsRecordsSpec)) fsRecordsCard

/-- THE TIED CARD OF 'annalkeep.FsRoot'. -/
def fsRootCard : Claim7 := { stood := { row := fsRootRow, standIns := [], harness := (true, "f12f88a231c55008dc8d610fc056e6719ef23f3b7f623d5b52de5ca5e98e9327"), looks := true }, kinds := [], alts := [], laidByText := true, laidKinds := [.data, .data, .data, .data, .sentinel, .sentinel, .pinned], laidTests := true, laidLooks := .later }
def FsRootCardSaid : Prop := Claim7.holds Tryz.pinned (.plain (OpenSpec.ofChange fsRootSpec)) fsRootCard

/-- THE TIED CARD OF 'annalkeep.FsPast'. -/
def fsPastCard : Claim7 := { stood := { row := fsPastRow, standIns := [], harness := (true, "f12f88a231c55008dc8d610fc056e6719ef23f3b7f623d5b52de5ca5e98e9327"), looks := true }, kinds := [], alts := [], laidByText := true, laidKinds := [.data, .data, .data, .data, .sentinel, .sentinel, .pinned], laidTests := true, laidLooks := .later }
def FsPastCardSaid : Prop := Claim7.holds Tryz.pinned (.plain (OpenSpec.ofChange fsPastSpec)) fsPastCard

/-- THE TIED CARD OF 'annalkeep.FsMoves'. -/
def fsMovesCard : Claim7 := { stood := { row := fsMovesRow, standIns := [], harness := (true, "f12f88a231c55008dc8d610fc056e6719ef23f3b7f623d5b52de5ca5e98e9327"), looks := true }, kinds := [], alts := [], laidByText := true, laidKinds := [.data, .data, .data, .data, .sentinel, .sentinel, .pinned], laidTests := true, laidLooks := .later }
def FsMovesCardSaid : Prop := Claim7.holds Tryz.pinned (.plain (OpenSpec.ofChange fsMovesSpec)) fsMovesCard

/-- THE TIED CARD OF 'annalkeep.FsOwn'. -/
def fsOwnCard : Claim7 := { stood := { row := fsOwnRow, standIns := [], harness := (true, "f12f88a231c55008dc8d610fc056e6719ef23f3b7f623d5b52de5ca5e98e9327"), looks := true }, kinds := [], alts := [], laidByText := true, laidKinds := [.data, .data, .data, .data, .sentinel, .sentinel, .pinned], laidTests := true, laidLooks := .later }
def FsOwnCardSaid : Prop := Claim7.holds Tryz.pinned (.plain (OpenSpec.ofChange fsOwnSpec)) fsOwnCard

/-- THE TIED CARD OF 'annalkeep.FsGone'. -/
def fsGoneCard : Claim7 := { stood := { row := fsGoneRow, standIns := [], harness := (true, "f12f88a231c55008dc8d610fc056e6719ef23f3b7f623d5b52de5ca5e98e9327"), looks := true }, kinds := [], alts := [], laidByText := true, laidKinds := [.data, .data, .data, .data, .sentinel, .sentinel, .pinned], laidTests := true, laidLooks := .later }
def FsGoneCardSaid : Prop := Claim7.holds Tryz.pinned (.plain (OpenSpec.ofChange fsGoneSpec)) fsGoneCard

/-- THE TIED CARD OF 'annalkeep.FsTree'. -/
def fsTreeCard : Claim7 := { stood := { row := fsTreeRow, standIns := [], harness := (true, "f12f88a231c55008dc8d610fc056e6719ef23f3b7f623d5b52de5ca5e98e9327"), looks := true }, kinds := [], alts := [], laidByText := true, laidKinds := [.data, .data, .data, .data, .sentinel, .sentinel, .pinned], laidTests := true, laidLooks := .later }
def FsTreeCardSaid : Prop := Claim7.holds Tryz.pinned (.plain (OpenSpec.ofChange fsTreeSpec)) fsTreeCard

/-- THE TIED CARD OF 'annalkeep.FsKept'. -/
def fsKeptCard : Claim7 := { stood := { row := fsKeptRow, standIns := [], harness := (true, "f12f88a231c55008dc8d610fc056e6719ef23f3b7f623d5b52de5ca5e98e9327"), looks := true }, kinds := [], alts := [], laidByText := true, laidKinds := [.data, .data, .data, .data, .sentinel, .sentinel, .pinned], laidTests := true, laidLooks := .later }
def FsKeptCardSaid : Prop := Claim7.holds Tryz.pinned (.plain (OpenSpec.ofChange fsKeptSpec)) fsKeptCard

/-- THE TIED CARD OF 'annaltop.TopSnaps'. -/
def topSnapsCard : Claim7 := { stood := { row := topSnapsRow, standIns := [], harness := (true, "f12f88a231c55008dc8d610fc056e6719ef23f3b7f623d5b52de5ca5e98e9327"), looks := true }, kinds := [], alts := [], laidByText := true, laidKinds := [.data, .data, .data, .data, .sentinel, .sentinel, .pinned], laidTests := true, laidLooks := .later }
def TopSnapsCardSaid : Prop := Claim7.holds Tryz.pinned (.plain (OpenSpec.ofChange topSnapsSpec)) topSnapsCard

/-- THE SECOND FORM's CARD OF 'annalkeep.FsBounds'. -/
def fsBoundsUptoCard : Claim7 := { stood := { row := fsBoundsUptoRow, standIns := [], harness := (true, "f12f88a231c55008dc8d610fc056e6719ef23f3b7f623d5b52de5ca5e98e9327"), looks := true }, kinds := [], alts := [], laidByText := true, laidKinds := [.data, .data, .data, .data, .sentinel, .sentinel, .pinned], laidTests := true, laidLooks := .later }
def FsBoundsUptoCardSaid : Prop := Claim7.holds Tryz.pinned (.plain (OpenSpec.upto fsBoundsSpec)) fsBoundsUptoCard

/-- THE SECOND FORM's CARD OF 'annalkeep.FsWrites'. -/
def fsWritesUptoCard : Claim7 := { stood := { row := fsWritesUptoRow, standIns := [], harness := (true, "f12f88a231c55008dc8d610fc056e6719ef23f3b7f623d5b52de5ca5e98e9327"), looks := true }, kinds := [], alts := [], laidByText := true, laidKinds := [.data, .data, .data, .data, .sentinel, .sentinel, .pinned], laidTests := true, laidLooks := .later }
def FsWritesUptoCardSaid : Prop := Claim7.holds Tryz.pinned (.plain (OpenSpec.upto fsWritesSpec)) fsWritesUptoCard

/-- THE SECOND FORM's CARD OF 'annalkeep.FsTwice'. -/
def fsTwiceUptoCard : Claim7 := { stood := { row := fsTwiceUptoRow, standIns := [], harness := (true, "f12f88a231c55008dc8d610fc056e6719ef23f3b7f623d5b52de5ca5e98e9327"), looks := true }, kinds := [], alts := [], laidByText := true, laidKinds := [.data, .data, .data, .data, .sentinel, .sentinel, .pinned], laidTests := true, laidLooks := .later }
def FsTwiceUptoCardSaid : Prop := Claim7.holds Tryz.pinned (.plain (OpenSpec.upto fsTwiceSpec)) fsTwiceUptoCard

/-- THE SECOND FORM's CARD OF 'annalkeep.FsRecords'. -/
def fsRecordsUptoCard : Claim7 := { stood := { row := fsRecordsUptoRow, standIns := [], harness := (true, "f12f88a231c55008dc8d610fc056e6719ef23f3b7f623d5b52de5ca5e98e9327"), looks := true }, kinds := [], alts := [], laidByText := true, laidKinds := [.data, .data, .data, .data, .sentinel, .sentinel, .pinned], laidTests := true, laidLooks := .later }
def FsRecordsUptoCardSaid : Prop := Claim7.holds Tryz.pinned (.plain (OpenSpec.upto fsRecordsSpec)) fsRecordsUptoCard

/-- THE SECOND FORM's CARD OF 'annalkeep.FsRoot'. -/
def fsRootUptoCard : Claim7 := { stood := { row := fsRootUptoRow, standIns := [], harness := (true, "f12f88a231c55008dc8d610fc056e6719ef23f3b7f623d5b52de5ca5e98e9327"), looks := true }, kinds := [], alts := [], laidByText := true, laidKinds := [.data, .data, .data, .data, .sentinel, .sentinel, .pinned], laidTests := true, laidLooks := .later }
def FsRootUptoCardSaid : Prop := Claim7.holds Tryz.pinned (.plain (OpenSpec.upto fsRootSpec)) fsRootUptoCard

/-- THE SECOND FORM's CARD OF 'annalkeep.FsPast'. -/
def fsPastUptoCard : Claim7 := { stood := { row := fsPastUptoRow, standIns := [], harness := (true, "f12f88a231c55008dc8d610fc056e6719ef23f3b7f623d5b52de5ca5e98e9327"), looks := true }, kinds := [], alts := [], laidByText := true, laidKinds := [.data, .data, .data, .data, .sentinel, .sentinel, .pinned], laidTests := true, laidLooks := .later }
def FsPastUptoCardSaid : Prop := Claim7.holds Tryz.pinned (.plain (OpenSpec.upto fsPastSpec)) fsPastUptoCard

/-- THE SECOND FORM's CARD OF 'annalkeep.FsMoves'. -/
def fsMovesUptoCard : Claim7 := { stood := { row := fsMovesUptoRow, standIns := [], harness := (true, "f12f88a231c55008dc8d610fc056e6719ef23f3b7f623d5b52de5ca5e98e9327"), looks := true }, kinds := [], alts := [], laidByText := true, laidKinds := [.data, .data, .data, .data, .sentinel, .sentinel, .pinned], laidTests := true, laidLooks := .later }
def FsMovesUptoCardSaid : Prop := Claim7.holds Tryz.pinned (.plain (OpenSpec.upto fsMovesSpec)) fsMovesUptoCard

/-- THE SECOND FORM's CARD OF 'annalkeep.FsOwn'. -/
def fsOwnUptoCard : Claim7 := { stood := { row := fsOwnUptoRow, standIns := [], harness := (true, "f12f88a231c55008dc8d610fc056e6719ef23f3b7f623d5b52de5ca5e98e9327"), looks := true }, kinds := [], alts := [], laidByText := true, laidKinds := [.data, .data, .data, .data, .sentinel, .sentinel, .pinned], laidTests := true, laidLooks := .later }
def FsOwnUptoCardSaid : Prop := Claim7.holds Tryz.pinned (.plain (OpenSpec.upto fsOwnSpec)) fsOwnUptoCard

/-- THE SECOND FORM's CARD OF 'annalkeep.FsGone'. -/
def fsGoneUptoCard : Claim7 := { stood := { row := fsGoneUptoRow, standIns := [], harness := (true, "f12f88a231c55008dc8d610fc056e6719ef23f3b7f623d5b52de5ca5e98e9327"), looks := true }, kinds := [], alts := [], laidByText := true, laidKinds := [.data, .data, .data, .data, .sentinel, .sentinel, .pinned], laidTests := true, laidLooks := .later }
def FsGoneUptoCardSaid : Prop := Claim7.holds Tryz.pinned (.plain (OpenSpec.upto fsGoneSpec)) fsGoneUptoCard

/-- THE SECOND FORM's CARD OF 'annalkeep.FsTree'. -/
def fsTreeUptoCard : Claim7 := { stood := { row := fsTreeUptoRow, standIns := [], harness := (true, "f12f88a231c55008dc8d610fc056e6719ef23f3b7f623d5b52de5ca5e98e9327"), looks := true }, kinds := [], alts := [], laidByText := true, laidKinds := [.data, .data, .data, .data, .sentinel, .sentinel, .pinned], laidTests := true, laidLooks := .later }
def FsTreeUptoCardSaid : Prop := Claim7.holds Tryz.pinned (.plain (OpenSpec.upto fsTreeSpec)) fsTreeUptoCard

/-- THE SECOND FORM's CARD OF 'annalkeep.FsKept'. -/
def fsKeptUptoCard : Claim7 := { stood := { row := fsKeptUptoRow, standIns := [], harness := (true, "f12f88a231c55008dc8d610fc056e6719ef23f3b7f623d5b52de5ca5e98e9327"), looks := true }, kinds := [], alts := [], laidByText := true, laidKinds := [.data, .data, .data, .data, .sentinel, .sentinel, .pinned], laidTests := true, laidLooks := .later }
def FsKeptUptoCardSaid : Prop := Claim7.holds Tryz.pinned (.plain (OpenSpec.upto fsKeptSpec)) fsKeptUptoCard

/-- THE SECOND FORM's CARD OF 'annaltop.TopSnaps'. -/
def topSnapsUptoCard : Claim7 := { stood := { row := topSnapsUptoRow, standIns := [], harness := (true, "f12f88a231c55008dc8d610fc056e6719ef23f3b7f623d5b52de5ca5e98e9327"), looks := true }, kinds := [], alts := [], laidByText := true, laidKinds := [.data, .data, .data, .data, .sentinel, .sentinel, .pinned], laidTests := true, laidLooks := .later }
def TopSnapsUptoCardSaid : Prop := Claim7.holds Tryz.pinned (.plain (OpenSpec.upto topSnapsSpec)) topSnapsUptoCard
end Rows
end Go.Proofs.YtacjdfhllomccaaGreatDoor
