/- Pure functions of group PastC. Conditions: none. -/
import Derived.Test.YtljbmnknmhogaaaTreeFT
import Derived.Test.YtljbmnknmhogaaaRunFT
import Derived.Test.YtljbmnknmhogaaaEqsFT
import Derived.Test.YtljbmnknmhogaaaMapT
namespace Go.Proofs.Ytljbmnknmhogaaa
set_option linter.unusedVariables false
def kX (F:Nat) (p0:DTree) : Option (Int) :=
 (mj F p0).bind fun r1 =>
 bif (r1.2 != 0) then
  some r1.2
 else
  (kY F r1.1).bind fun r2 =>
  some r2
end Go.Proofs.Ytljbmnknmhogaaa
