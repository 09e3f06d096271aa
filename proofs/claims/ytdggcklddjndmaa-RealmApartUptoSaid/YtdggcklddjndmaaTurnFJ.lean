/- Pure functions, written by walkgen.py out of the Go functions of group Turn. Their conditions: none. -/
import Derived.Test.YtdggcklddjndmaaRealmFJ
import Derived.Test.YtdggcklddjndmaaMapJ
namespace Go.Proofs.Ytdggcklddjndmaa
set_option linter.unusedVariables false
end Go.Proofs.Ytdggcklddjndmaa
