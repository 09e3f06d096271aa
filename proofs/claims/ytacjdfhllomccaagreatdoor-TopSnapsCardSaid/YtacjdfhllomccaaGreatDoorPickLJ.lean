/- The Go functions of group Lst compute the pure functions of that group: written by walkgen.py. Condition of each: the pure function yields a result. -/
import Derived.Test.YtacjdfhllomccaaGreatDoorSh2J
import Derived.Test.YtacjdfhllomccaaGreatDoorDirLJ
import Derived.Test.YtacjdfhllomccaaGreatDoorSortSJ
import Derived.Test.YtacjdfhllomccaaGreatDoorLstFJ
import Derived.Test.YtacjdfhllomccaaGreatDoorEqLJ
import Derived.Test.YtacjdfhllomccaaGreatDoorCodeFJ
import Derived.Test.YtacjdfhllomccaaGreatDoorMapJ
import Derived.Test.YtacjdfhllomccaaGreatDoorCodeLJ
namespace Go.Proofs.YtacjdfhllomccaaGreatDoor
set_option linter.unusedVariables false
end Go.Proofs.YtacjdfhllomccaaGreatDoor
/- Pure functions, written by walkgen.py out of the Go functions of group Pick. Their conditions: none. -/
namespace Go.Proofs.YtacjdfhllomccaaGreatDoor
set_option linter.unusedVariables false
end Go.Proofs.YtacjdfhllomccaaGreatDoor
/- The Go functions of group Pick compute the pure functions of that group: written by walkgen.py. Condition of each: the pure function yields a result. -/
namespace Go.Proofs.YtacjdfhllomccaaGreatDoor
set_option linter.unusedVariables false
end Go.Proofs.YtacjdfhllomccaaGreatDoor
