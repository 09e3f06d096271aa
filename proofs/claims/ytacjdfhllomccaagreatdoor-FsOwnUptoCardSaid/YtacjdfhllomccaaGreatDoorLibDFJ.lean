/- Pure functions, written by walkgen.py out of the Go functions of group LibD. Their conditions: none. -/
import Derived.Test.YtacjdfhllomccaaGreatDoorLibFJ
import Derived.Test.YtacjdfhllomccaaGreatDoorLayBJ
import Derived.Test.YtacjdfhllomccaaGreatDoorBldJ
import Derived.Test.YtacjdfhllomccaaGreatDoorMapJ
namespace Go.Proofs.YtacjdfhllomccaaGreatDoor
set_option linter.unusedVariables false
def strings_Split (p0 : ByteArray) (p1 : ByteArray) : Option (List ByteArray) :=
 if p0.size < 4294967281 ∧ 1 ≤ p1.size then some (Lib.splitB p1 0 (Lib.countB p0 p1) p0) else none
end Go.Proofs.YtacjdfhllomccaaGreatDoor
