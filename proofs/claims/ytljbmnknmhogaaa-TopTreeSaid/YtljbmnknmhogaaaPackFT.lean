/- Pure functions of group Pack. Conditions: none. -/
import Derived.Test.YtljbmnknmhogaaaBuildFT
import Derived.Test.YtljbmnknmhogaaaTreeFT
import Derived.Test.YtljbmnknmhogaaaEqsFT
import Derived.Test.YtljbmnknmhogaaaMapT
namespace Go.Proofs.Ytljbmnknmhogaaa
set_option linter.unusedVariables false
def mT (F:Nat) (p0:DTree) : Option (DTree × Int) :=
 (mj F p0).bind fun r1 =>
 bif (r1.2 != 0) then
  some ((DTree.mk 0 []),r1.2)
 else
  (oe F r1.1).bind fun r2 =>
  some (r2.1,r2.2)
end Go.Proofs.Ytljbmnknmhogaaa
