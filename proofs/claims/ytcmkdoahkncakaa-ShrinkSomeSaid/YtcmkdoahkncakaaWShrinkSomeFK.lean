/- Pure functions, written by walkgen.py out of the Go functions of group WShrinkSome. Their conditions: none. -/
import Derived.Test.YtcmkdoahkncakaaShrFK
import Derived.Test.YtcmkdoahkncakaaBuildFK
import Derived.Test.YtcmkdoahkncakaaTreeFK
import Derived.Test.YtcmkdoahkncakaaEqsFK
import Derived.Test.YtcmkdoahkncakaaMapK
namespace Go.Proofs.Ytcmkdoahkncakaa
set_option linter.unusedVariables false
def annalkeep_ShrinkSome (F : Nat) (p0 : DTree) (p1 : Int) (p2 : Int) : Option (Bool) :=
 (annalkeep_at1 1 (ByteArray.mk #[97])).bind fun r1 =>
 (annalkeep_at1 2 (ByteArray.mk #[98])).bind fun r2 =>
 (annalkeep_of F [r1, r2]).bind fun r3 =>
 (annalkeep_at1 1 (ByteArray.mk #[97])).bind fun r4 =>
 (elem_Spot r4).bind fun r5 =>
 (shrink_Remove F r3 r5).bind fun r6 =>
 (tree_All F r6.1).bind fun r7 =>
 (
  bif (r6.2 != 0) then
   some true
   else
    bif (r7.2 != 0) then
     some true
    else
     (annalkeep_at1 2 (ByteArray.mk #[98])).bind fun r8 =>
     (slices_Equal_Elem F r7.1 [r8]).bind fun r9 =>
     some (!r9) : Option (Bool)).bind fun z1 =>
 bif z1 then
  some false
 else
  (tree_All F p0).bind fun r10 =>
  bif ((r10.2 != 0) || (decide ((r10.1.length : Int) < 2))) then
   some true
  else
   (annalkeep_Within p1 (r10.1.length : Int)).bind fun r11 =>
   (annalkeep_Within p2 (r10.1.length : Int)).bind fun r12 =>
   bif (r11 == r12) then
    some true
   else
    (idx r10.1 r11).bind fun e1 =>
    (elem_Spot e1).bind fun r13 =>
    (shrink_Remove F p0 r13).bind fun r14 =>
    (idx r10.1 r12).bind fun e2 =>
    (elem_Spot e2).bind fun r15 =>
    (shrink_Remove F p0 r15).bind fun r16 =>
    bif ((r14.2 != 0) || (r16.2 != 0)) then
     some false
    else
     (idx r10.1 r12).bind fun e3 =>
     (elem_Spot e3).bind fun r17 =>
     (shrink_Remove F r14.1 r17).bind fun r18 =>
     (idx r10.1 r11).bind fun e4 =>
     (elem_Spot e4).bind fun r19 =>
     (shrink_Remove F r16.1 r19).bind fun r20 =>
     (tree_All F r18.1).bind fun r21 =>
     (tree_All F r20.1).bind fun r22 =>
     (
      bif (r18.2 == 0) then
       bif (r20.2 == 0) then
        bif (r21.2 == 0) then
         bif (r22.2 == 0) then
          (slices_Equal_Elem F r21.1 r22.1).bind fun r23 =>
          bif r23 then
           bif ((r21.1.length : Int) == (IntKind.i64.wrap ((r10.1.length : Int) - 2))) then
            (idx r10.1 r11).bind fun e5 =>
            (slices_Contains_Elem F r21.1 e5).bind fun r24 =>
            bif (!r24) then
             (idx r10.1 r12).bind fun e6 =>
             (slices_Contains_Elem F r21.1 e6).bind fun r25 =>
             some (!r25)
            else
             some false
           else
            some false
          else
           some false
         else
          some false
        else
         some false
       else
        some false
       else
        some false : Option (Bool)).bind fun z2 =>
     some z2
end Go.Proofs.Ytcmkdoahkncakaa
