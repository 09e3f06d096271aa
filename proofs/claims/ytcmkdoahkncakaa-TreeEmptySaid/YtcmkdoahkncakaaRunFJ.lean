/- Pure functions, written by walkgen.py out of the Go functions of group Run. Their conditions: none. -/
import Derived.Test.YtcmkdoahkncakaaKeyFJ
import Derived.Test.YtcmkdoahkncakaaMapJ
namespace Go.Proofs.Ytcmkdoahkncakaa
set_option linter.unusedVariables false
end Go.Proofs.Ytcmkdoahkncakaa
