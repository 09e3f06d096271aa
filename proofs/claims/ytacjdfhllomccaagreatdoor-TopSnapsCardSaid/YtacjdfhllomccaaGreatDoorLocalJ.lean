/- Data of the program's inner packages. Its conditions: none. -/
import Derived.Test.YtacjdfhllomccaaGreatDoorArrJ
namespace Go.Proofs.YtacjdfhllomccaaGreatDoor
structure Dbuild_low where
 i : Int
 s : DSpot
 deriving DecidableEq
def Dbuild_low.cells (x : Dbuild_low) : List Value := [.int .i64 x.i, .int .i64 x.s.key.pfs, .int .i64 x.s.key.obj, .int .i64 x.s.key.off, .int .i64 x.s.made]
def ebuild_low : Enc Dbuild_low := eFlat 5 Dbuild_low.cells (fun _ => rfl) (fun _ => one_of rfl)
end Go.Proofs.YtacjdfhllomccaaGreatDoor
