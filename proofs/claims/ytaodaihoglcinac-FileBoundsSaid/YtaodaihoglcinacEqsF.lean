/- Pure functions, written by walkgen.py out of the Go functions of group Eqs. Their conditions: none. -/
import Derived.Test.YtaodaihoglcinacKeyF
import Derived.Test.YtaodaihoglcinacMap
namespace Go.Proofs.Ytaodaihoglcinac
set_option linter.unusedVariables false



end Go.Proofs.Ytaodaihoglcinac
