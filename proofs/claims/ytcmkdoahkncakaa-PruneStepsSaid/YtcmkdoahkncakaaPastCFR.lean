/- Pure functions, written by walkgen.py out of the Go functions of group PastC. Their conditions: none. -/
import Derived.Test.YtcmkdoahkncakaaTreeFR
import Derived.Test.YtcmkdoahkncakaaRunFR
import Derived.Test.YtcmkdoahkncakaaMapR
namespace Go.Proofs.Ytcmkdoahkncakaa
set_option linter.unusedVariables false
def past_Check (F : Nat) (p0 : DTree) : Option (Int) :=
 (tree_All F p0).bind fun r1 =>
 bif (r1.2 != 0) then
  some r1.2
 else
  (run_Check F r1.1).bind fun r2 =>
  some r2
end Go.Proofs.Ytcmkdoahkncakaa
