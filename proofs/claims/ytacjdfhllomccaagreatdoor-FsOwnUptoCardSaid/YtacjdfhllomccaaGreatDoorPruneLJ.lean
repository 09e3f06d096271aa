/- Pure functions, written by walkgen.py out of the Go functions of group Prune. Their conditions: none. -/
import Derived.Test.YtacjdfhllomccaaGreatDoorRunFJ
import Derived.Test.YtacjdfhllomccaaGreatDoorMapJ
import Derived.Test.YtacjdfhllomccaaGreatDoorSh2J
import Derived.Test.YtacjdfhllomccaaGreatDoorRunLJ
import Derived.Test.YtacjdfhllomccaaGreatDoorEqLJ
namespace Go.Proofs.YtacjdfhllomccaaGreatDoor
set_option linter.unusedVariables false
end Go.Proofs.YtacjdfhllomccaaGreatDoor
/- The Go functions of group Prune compute the pure functions of that group: written by walkgen.py. Condition of each: the pure function yields a result. -/
namespace Go.Proofs.YtacjdfhllomccaaGreatDoor
set_option linter.unusedVariables false
end Go.Proofs.YtacjdfhllomccaaGreatDoor
