/- Pure functions, written by walkgen.py out of the Go functions of group Run. Their conditions: none. -/
import Derived.Test.YtcmkdoahkncakaaKeyFG
import Derived.Test.YtcmkdoahkncakaaMapG
namespace Go.Proofs.Ytcmkdoahkncakaa
set_option linter.unusedVariables false
end Go.Proofs.Ytcmkdoahkncakaa
