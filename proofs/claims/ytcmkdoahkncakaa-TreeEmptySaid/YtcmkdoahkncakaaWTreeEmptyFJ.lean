/- Pure functions, written by walkgen.py out of the Go functions of group WTreeEmpty. Their conditions: none. -/
import Derived.Test.YtcmkdoahkncakaaGrowIFJ
import Derived.Test.YtcmkdoahkncakaaFindSFJ
import Derived.Test.YtcmkdoahkncakaaFindFFJ
import Derived.Test.YtcmkdoahkncakaaFindNFJ
import Derived.Test.YtcmkdoahkncakaaTreeFJ
import Derived.Test.YtcmkdoahkncakaaEqsFJ
import Derived.Test.YtcmkdoahkncakaaMapJ
namespace Go.Proofs.Ytcmkdoahkncakaa
set_option linter.unusedVariables false
def annalkeep_TreeEmpty (F : Nat) (p0 : DSpot) (p1 : DElem) : Option (Bool) :=
 (tree_New).bind fun r1 =>
 (tree_All F r1).bind fun r2 =>
 (find_From F r1 p0 9).bind fun r3 =>
 (find_Since F r1 0).bind fun r4 =>
 bif ((r2.2 != 0) || ((r3.2 != 0) || ((r4.2.2 != 0) || ((IntKind.i64.wrap ((IntKind.i64.wrap ((IntKind.i64.wrap ((r2.1.length : Int) + (r3.1.length : Int))) + (r4.1.length : Int))) + r4.2.1)) != 0)))) then
  some false
 else
  (find_Spot F r1 p0).bind fun r5 =>
  bif (r5.2 != 4) then
   some false
  else
   (grow_Insert F r1 p1).bind fun r6 =>
   bif (r6.2 != 0) then
    (elem_Check p1).bind fun r7 =>
    some (r6.2 == r7)
   else
    (tree_All F r6.1).bind fun r8 =>
    (grow_Insert F r6.1 p1).bind fun r9 =>
    (
     bif (r8.2 == 0) then
      bif (r9.2 == 5) then
       (slices_Equal_Elem F r8.1 [p1]).bind fun r10 =>
       some r10
      else
       some false
      else
       some false : Option (Bool)).bind fun z1 =>
    some z1
end Go.Proofs.Ytcmkdoahkncakaa
