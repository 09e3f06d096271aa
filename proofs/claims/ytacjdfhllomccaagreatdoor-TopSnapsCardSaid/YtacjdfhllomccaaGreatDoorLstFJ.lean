/- Pure functions, written by walkgen.py out of the Go functions of group Lst. Their conditions: none. -/
import Derived.Test.YtacjdfhllomccaaGreatDoorDirFJ
import Derived.Test.YtacjdfhllomccaaGreatDoorSortSJ
import Derived.Test.YtacjdfhllomccaaGreatDoorMapJ
namespace Go.Proofs.YtacjdfhllomccaaGreatDoor
set_option linter.unusedVariables false
end Go.Proofs.YtacjdfhllomccaaGreatDoor
