/- Pure functions of group WWriteSame. Conditions: none. -/
import Derived.Test.YtcmkdoahkncakaaWrPFH
import Derived.Test.YtcmkdoahkncakaaWrCFH
import Derived.Test.YtcmkdoahkncakaaRunFH
import Derived.Test.YtcmkdoahkncakaaBuildFH
import Derived.Test.YtcmkdoahkncakaaTreeFH
import Derived.Test.YtcmkdoahkncakaaEqsFH
import Derived.Test.YtcmkdoahkncakaaMapH
namespace Go.Proofs.Ytcmkdoahkncakaa
set_option linter.unusedVariables false
def yo (F:Nat) (p0:DTree) (p1:DKey) (p2:ByteArray) (p3:Int) : Option (Bool) :=
 (yj 1 (ByteArray.mk #[97])).bind fun r1 =>
 (yr F [r1]).bind fun r2 =>
 (yA F r2 (DKey.mk 0 0 1) (ByteArray.mk #[98]) 2).bind fun r3 =>
 (yD F r3.1).bind fun r4 =>
 (
  bif (r3.2 != 0) then
   some true
   else
    bif (r4.2 != 0) then
     some true
    else
     bif ((r4.1.length:Int) != 2) then
      some true
     else
      (idx r4.1 0).bind fun e1 =>
      some (e1.gone != 2) : Option (Bool)).bind fun z1 =>
 bif z1 then
  some false
 else
  (yD F p0).bind fun r5 =>
  (
   bif (r5.2 != 0) then
    some true
    else
     (yz F r5.1).bind fun r6 =>
     some (r6 != 0) : Option (Bool)).bind fun z2 =>
  bif z2 then
   some true
  else
   (yA F p0 p1 p2 p3).bind fun r7 =>
   (Bs F r5.1 p1 p2 p3).bind fun r8 =>
   (zr F p0 p1 p3).bind fun r9 =>
   (Br F r5.1 p1 p3).bind fun r10 =>
   bif ((r7.2 != r8.2) || (r9.2 != r10.2)) then
    some false
   else
    (
     bif (r7.2 == 0) then
      (yD F r7.1).bind fun r11 =>
      (
       bif (r11.2 != 0) then
        some true
        else
         (xJ F r11.1 r8.1).bind fun r12 =>
         some (!r12) : Option (Bool)).bind fun z3 =>
      bif z3 then
       some (.inr false)
      else
       some (.inl ())
      else
       some (.inl ()) : Option ((Unit) ⊕ Bool)).bind fun z=>match z with
     | .inl _ =>
      (
       bif (r9.2 == 0) then
        (yD F r9.1).bind fun r13 =>
        (
         bif (r13.2 != 0) then
          some true
          else
           (xJ F r13.1 r10.1).bind fun r14 =>
           some (!r14) : Option (Bool)).bind fun z4 =>
        bif z4 then
         some (.inr false)
        else
         some (.inl ())
        else
         some (.inl ()) : Option ((Unit) ⊕ Bool)).bind fun z=>match z with
       | .inl _ =>
        some true
       | .inr q=>some q
     | .inr q=>some q
end Go.Proofs.Ytcmkdoahkncakaa
