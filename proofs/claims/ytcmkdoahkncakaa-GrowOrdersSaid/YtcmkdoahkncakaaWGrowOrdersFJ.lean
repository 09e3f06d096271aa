/- Pure functions, written by walkgen.py out of the Go functions of group WGrowOrders. Their conditions: none. -/
import Derived.Test.YtcmkdoahkncakaaGrowIFJ
import Derived.Test.YtcmkdoahkncakaaBuildFJ
import Derived.Test.YtcmkdoahkncakaaPackFJ
import Derived.Test.YtcmkdoahkncakaaTreeFJ
import Derived.Test.YtcmkdoahkncakaaEqsFJ
import Derived.Test.YtcmkdoahkncakaaMapJ
namespace Go.Proofs.Ytcmkdoahkncakaa
set_option linter.unusedVariables false
def annalkeep_GrowOrders (F : Nat) (p0 : DTree) (p1 : DElem) (p2 : DElem) : Option (Bool) :=
 (annalkeep_at1 1 (ByteArray.mk #[97])).bind fun r1 =>
 (annalkeep_of F [r1]).bind fun r2 =>
 (annalkeep_at1 2 (ByteArray.mk #[98])).bind fun r3 =>
 (grow_Insert F r2 r3).bind fun r4 =>
 (tree_All F r4.1).bind fun r5 =>
 bif ((r4.2 != 0) || ((r5.2 != 0) || ((r5.1.length : Int) != 2))) then
  some false
 else
  (grow_Insert F p0 p1).bind fun r6 =>
  (grow_Insert F p0 p2).bind fun r7 =>
  bif ((r6.2 != 0) || (r7.2 != 0)) then
   (
    bif (r6.2 == 0) then
     some true
     else
      (annalref_SameTree F r6.1 (DTree.mk 0 [])).bind fun r8 =>
      some r8 : Option (Bool)).bind fun z1 =>
   some z1
  else
   (grow_Insert F r6.1 p2).bind fun r9 =>
   (grow_Insert F r7.1 p1).bind fun r10 =>
   bif ((r9.2 != r10.2) || (r9.2 != 0)) then
    some (r9.2 == r10.2)
   else
    (tree_All F r9.1).bind fun r11 =>
    (tree_All F r10.1).bind fun r12 =>
    (
     bif (r11.2 == 0) then
      bif (r12.2 == 0) then
       (slices_Equal_Elem F r11.1 r12.1).bind fun r13 =>
       some r13
      else
       some false
      else
       some false : Option (Bool)).bind fun z2 =>
    some z2
end Go.Proofs.Ytcmkdoahkncakaa
