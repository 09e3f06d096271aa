/- Contracts of library functions at this program, laid by the shelf in plain words. Their conditions: as each states. -/
import Derived.Shelf.Sort.Plain
import Derived.Shelf.Slices.CompactS
import Derived.Shelf.Slices.In.SortNone
import Derived.Test.YtacjdfhllomccaaGreatDoorProg
namespace Go.Proofs.YtacjdfhllomccaaGreatDoor
open Go.Shelf
end Go.Proofs.YtacjdfhllomccaaGreatDoor
