/- Rows of strings of the call's own, sorted and compacted by the library's functions. Its conditions: as each states. -/
import Derived.Test.YtacjdfhllomccaaGreatDoorRowJ
import Derived.Test.YtacjdfhllomccaaGreatDoorOpsJ
import Derived.Test.YtacjdfhllomccaaGreatDoorRecJ
import Derived.Test.YtacjdfhllomccaaGreatDoorBytesJ
import Derived.Test.YtacjdfhllomccaaGreatDoorLaySJ
namespace Go.Proofs.YtacjdfhllomccaaGreatDoor
open Go.Sort
def ofLs (d : List (List UInt8)) : List ByteArray := d.map ofL
theorem ofLs_length (d : List (List UInt8)) : (ofLs d).length = d.length := List.length_map ..
section
variable {w : World} {V : View} {G : List HObj} {w1 : World} {A : Option Addr} {c : Nat} {l : List ByteArray} {t : TypeId}
theorem ofLs_append (a b : List (List UInt8)) : ofLs (a ++ b) = ofLs a ++ ofLs b := List.map_append ..
end
end Go.Proofs.YtacjdfhllomccaaGreatDoor
