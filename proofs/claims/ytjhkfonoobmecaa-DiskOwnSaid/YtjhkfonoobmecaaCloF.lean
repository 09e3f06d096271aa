/- Pure functions, written by walkgen.py out of the Go functions of group Clo. Their conditions: none. -/
import Derived.Test.YtjhkfonoobmecaaMap
namespace Go.Proofs.Ytjhkfonoobmecaa
set_option linter.unusedVariables false

def annalkeep_one (p0 : ByteArray) : Option (DDisk) :=
  some (DDisk.mk [p0] [])

end Go.Proofs.Ytjhkfonoobmecaa
