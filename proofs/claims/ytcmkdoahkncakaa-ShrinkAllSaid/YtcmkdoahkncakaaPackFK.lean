/- Pure functions, written by walkgen.py out of the Go functions of group Pack. Their conditions: none. -/
import Derived.Test.YtcmkdoahkncakaaBuildFK
import Derived.Test.YtcmkdoahkncakaaTreeFK
import Derived.Test.YtcmkdoahkncakaaEqsFK
import Derived.Test.YtcmkdoahkncakaaMapK
namespace Go.Proofs.Ytcmkdoahkncakaa
set_option linter.unusedVariables false
def annalkeep_begun (F : Nat) : Option (Bool) :=
 (annalkeep_at1 1 (ByteArray.mk #[97])).bind fun r1 =>
 (annalkeep_of F [r1]).bind fun r2 =>
 (tree_All F r2).bind fun r3 =>
 (
  bif (r3.2 == 0) then
   (annalkeep_at1 1 (ByteArray.mk #[97])).bind fun r4 =>
   (slices_Equal_Elem F r3.1 [r4]).bind fun r5 =>
   some r5
   else
    some false : Option (Bool)).bind fun z1 =>
 some z1
end Go.Proofs.Ytcmkdoahkncakaa
