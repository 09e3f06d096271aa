/- Pure functions of group PastC. Conditions: none. -/
import Derived.Test.YtcmkdoahkncakaaTreeFH
import Derived.Test.YtcmkdoahkncakaaRunFH
import Derived.Test.YtcmkdoahkncakaaMapH
namespace Go.Proofs.Ytcmkdoahkncakaa
set_option linter.unusedVariables false
def yC (F:Nat) (p0:DTree) : Option (Int) :=
 (yD F p0).bind fun r1 =>
 bif (r1.2 != 0) then
  some r1.2
 else
  (yz F r1.1).bind fun r2 =>
  some r2
end Go.Proofs.Ytcmkdoahkncakaa
