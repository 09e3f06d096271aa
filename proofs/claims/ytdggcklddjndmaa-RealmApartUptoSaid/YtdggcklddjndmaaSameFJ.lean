/- Pure functions, written by walkgen.py out of the Go functions of group Same. Their conditions: none. -/
import Derived.Test.YtdggcklddjndmaaEqsFJ
import Derived.Test.YtdggcklddjndmaaMapJ
namespace Go.Proofs.Ytdggcklddjndmaa
set_option linter.unusedVariables false
end Go.Proofs.Ytdggcklddjndmaa
