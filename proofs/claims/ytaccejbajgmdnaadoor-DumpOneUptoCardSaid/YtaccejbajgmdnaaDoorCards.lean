/-
  DERIVED. GIVEN WITH THE SEED: THE CARDS: each row of YtaccejbajgmdnaaDoorRows.lean that lists a variable, with what it lists TIED to the program's text (the seventh form; the later family's looks); each row that meets fmt, with fmt's text TOLD by the authors' own Lean function (tested against real Go, not proved from fmt's source: count such statements apart). THE CARD IS WHAT COUNTS. Prove the row's statement (the work); the ties are given (YtaccejbajgmdnaaDoorTie.lean); close each card by the builder's one call (the guide's Derived/Test/ToyasCard.lean, 'card_holds'). Laid BY PROGRAM, IN A SANDBOX (cutbox-door.mjs). By AI agents, Wed Nov 11 2026. No macro, syntax, notation, axiom, sorry.
-/
import Derived.Test.YtaccejbajgmdnaaDoorRows
import GoSem.ClaimSeven
namespace Go.Proofs.YtaccejbajgmdnaaDoor
namespace Rows

/-- THE TIED CARD OF 'annalkeep.DirOthers'. -/
def dirOthersCard : Claim7 := { stood := { row := dirOthersRow, standIns := [], harness := (true, "37759ce675b1e5481cbc2db45428a7c769a73ab24ae80e1d88bf729511f1d5c0"), looks := true }, kinds := [], alts := [], laidByText := true, laidKinds := [.data, .data, .data, .sentinel, .sentinel], laidTests := true, laidLooks := .later }
def DirOthersCardSaid : Prop := Claim7.holds Tryd.pinned (.plain (OpenSpec.ofChange dirOthersSpec)) dirOthersCard

/-- THE TIED CARD OF 'annalkeep.DirPast'. -/
def dirPastCard : Claim7 := { stood := { row := dirPastRow, standIns := [], harness := (true, "37759ce675b1e5481cbc2db45428a7c769a73ab24ae80e1d88bf729511f1d5c0"), looks := true }, kinds := [], alts := [], laidByText := true, laidKinds := [.data, .data, .data, .sentinel, .sentinel], laidTests := true, laidLooks := .later }
def DirPastCardSaid : Prop := Claim7.holds Tryd.pinned (.plain (OpenSpec.ofChange dirPastSpec)) dirPastCard

/-- THE TIED CARD OF 'annalkeep.DumpOne'. -/
def dumpOneCard : Claim7 := { stood := { row := dumpOneRow, standIns := [], harness := (true, "37759ce675b1e5481cbc2db45428a7c769a73ab24ae80e1d88bf729511f1d5c0"), looks := true }, kinds := [], alts := [], laidByText := true, laidKinds := [.data, .data, .data, .data, .sentinel, .sentinel, .pinned], laidTests := true, laidLooks := .later }
def DumpOneCardSaid : Prop := Claim7.holds Tryd.pinned (.plain (OpenSpec.ofChange dumpOneSpec)) dumpOneCard

/-- THE TIED CARD OF 'annalkeep.DumpBack'. -/
def dumpBackCard : Claim7 := { stood := { row := dumpBackRow, standIns := [], harness := (true, "37759ce675b1e5481cbc2db45428a7c769a73ab24ae80e1d88bf729511f1d5c0"), looks := true }, kinds := [], alts := [], laidByText := true, laidKinds := [.data, .data, .data, .data, .sentinel, .sentinel, .pinned], laidTests := true, laidLooks := .later }
def DumpBackCardSaid : Prop := Claim7.holds Tryd.pinned (.plain (OpenSpec.ofChange dumpBackSpec)) dumpBackCard

/-- THE TIED CARD OF 'annalkeep.DirMany'. -/
def dirManyCard : Claim7 := { stood := { row := dirManyRow, standIns := [], harness := (true, "37759ce675b1e5481cbc2db45428a7c769a73ab24ae80e1d88bf729511f1d5c0"), looks := true }, kinds := [], alts := [], laidByText := true, laidKinds := [.data, .data, .data, .sentinel, .sentinel], laidTests := true, laidLooks := .later }
def DirManyCardSaid : Prop := Claim7.holds Tryd.pinned (.plain (OpenSpec.ofChange dirManySpec)) dirManyCard

/-- THE TIED CARD OF 'annalkeep.DirNames'. -/
def dirNamesCard : Claim7 := { stood := { row := dirNamesRow, standIns := [], harness := (true, "37759ce675b1e5481cbc2db45428a7c769a73ab24ae80e1d88bf729511f1d5c0"), looks := true }, kinds := [], alts := [], laidByText := true, laidKinds := [.data, .data, .data, .sentinel, .sentinel], laidTests := true, laidLooks := .later }
def DirNamesCardSaid : Prop := Claim7.holds Tryd.pinned (.plain (OpenSpec.ofChange dirNamesSpec)) dirNamesCard

/-- THE SECOND FORM's CARD OF 'annalkeep.DirOthers'. -/
def dirOthersUptoCard : Claim7 := { stood := { row := dirOthersUptoRow, standIns := [], harness := (true, "37759ce675b1e5481cbc2db45428a7c769a73ab24ae80e1d88bf729511f1d5c0"), looks := true }, kinds := [], alts := [], laidByText := true, laidKinds := [.data, .data, .data, .sentinel, .sentinel], laidTests := true, laidLooks := .later }
def DirOthersUptoCardSaid : Prop := Claim7.holds Tryd.pinned (.plain (OpenSpec.upto dirOthersSpec)) dirOthersUptoCard

/-- THE SECOND FORM's CARD OF 'annalkeep.DirPast'. -/
def dirPastUptoCard : Claim7 := { stood := { row := dirPastUptoRow, standIns := [], harness := (true, "37759ce675b1e5481cbc2db45428a7c769a73ab24ae80e1d88bf729511f1d5c0"), looks := true }, kinds := [], alts := [], laidByText := true, laidKinds := [.data, .data, .data, .sentinel, .sentinel], laidTests := true, laidLooks := .later }
def DirPastUptoCardSaid : Prop := Claim7.holds Tryd.pinned (.plain (OpenSpec.upto dirPastSpec)) dirPastUptoCard

/-- THE SECOND FORM's CARD OF 'annalkeep.DumpOne'. -/
def dumpOneUptoCard : Claim7 := { stood := { row := dumpOneUptoRow, standIns := [], harness := (true, "37759ce675b1e5481cbc2db45428a7c769a73ab24ae80e1d88bf729511f1d5c0"), looks := true }, kinds := [], alts := [], laidByText := true, laidKinds := [.data, .data, .data, .data, .sentinel, .sentinel, .pinned], laidTests := true, laidLooks := .later }
def DumpOneUptoCardSaid : Prop := Claim7.holds Tryd.pinned (.plain (OpenSpec.upto dumpOneSpec)) dumpOneUptoCard

/-- THE SECOND FORM's CARD OF 'annalkeep.DumpBack'. -/
def dumpBackUptoCard : Claim7 := { stood := { row := dumpBackUptoRow, standIns := [], harness := (true, "37759ce675b1e5481cbc2db45428a7c769a73ab24ae80e1d88bf729511f1d5c0"), looks := true }, kinds := [], alts := [], laidByText := true, laidKinds := [.data, .data, .data, .data, .sentinel, .sentinel, .pinned], laidTests := true, laidLooks := .later }
def DumpBackUptoCardSaid : Prop := Claim7.holds Tryd.pinned (.plain (OpenSpec.upto dumpBackSpec)) dumpBackUptoCard

/-- THE SECOND FORM's CARD OF 'annalkeep.DirMany'. -/
def dirManyUptoCard : Claim7 := { stood := { row := dirManyUptoRow, standIns := [], harness := (true, "37759ce675b1e5481cbc2db45428a7c769a73ab24ae80e1d88bf729511f1d5c0"), looks := true }, kinds := [], alts := [], laidByText := true, laidKinds := [.data, .data, .data, .sentinel, .sentinel], laidTests := true, laidLooks := .later }
def DirManyUptoCardSaid : Prop := Claim7.holds Tryd.pinned (.plain (OpenSpec.upto dirManySpec)) dirManyUptoCard

/-- THE SECOND FORM's CARD OF 'annalkeep.DirNames'. -/
def dirNamesUptoCard : Claim7 := { stood := { row := dirNamesUptoRow, standIns := [], harness := (true, "37759ce675b1e5481cbc2db45428a7c769a73ab24ae80e1d88bf729511f1d5c0"), looks := true }, kinds := [], alts := [], laidByText := true, laidKinds := [.data, .data, .data, .sentinel, .sentinel], laidTests := true, laidLooks := .later }
def DirNamesUptoCardSaid : Prop := Claim7.holds Tryd.pinned (.plain (OpenSpec.upto dirNamesSpec)) dirNamesUptoCard
end Rows
end Go.Proofs.YtaccejbajgmdnaaDoor
