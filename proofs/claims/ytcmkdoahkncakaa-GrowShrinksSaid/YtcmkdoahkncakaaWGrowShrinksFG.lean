/- Pure functions, written by walkgen.py out of the Go functions of group WGrowShrinks. Their conditions: none. -/
import Derived.Test.YtcmkdoahkncakaaGrowIFG
import Derived.Test.YtcmkdoahkncakaaShrFG
import Derived.Test.YtcmkdoahkncakaaBuildFG
import Derived.Test.YtcmkdoahkncakaaTreeFG
import Derived.Test.YtcmkdoahkncakaaEqsFG
import Derived.Test.YtcmkdoahkncakaaMapG
namespace Go.Proofs.Ytcmkdoahkncakaa
set_option linter.unusedVariables false
def uG (F:Nat) (p0:DTree) (p1:DElem) (p2:Int) : Option (Bool) :=
 (uN 1 (ByteArray.mk #[97])).bind fun r1 =>
 (vy F [r1]).bind fun r2 =>
 (uN 1 (ByteArray.mk #[97])).bind fun r3 =>
 (sV r3).bind fun r4 =>
 (ut F r2 r4).bind fun r5 =>
 bif ((r5.2 != 0) || (decide ((r5.1.nodes.length:Int) < 1))) then
  some false
 else
  (vP F p0).bind fun r6 =>
  bif (r6.2 != 0) then
   some true
  else
   (vh F p0 p1).bind fun r7 =>
   (
    bif (r7.2 == 0) then
     (sV p1).bind fun r8 =>
     (ut F r7.1 r8).bind fun r9 =>
     (vP F r9.1).bind fun r10 =>
     (
      bif (r9.2 != 0) then
       some true
       else
        bif (r10.2 != 0) then
         some true
        else
         (ui F r10.1 r6.1).bind fun r11 =>
         some (!r11) : Option (Bool)).bind fun z1 =>
     bif z1 then
      some (.inr false)
     else
      some (.inl ())
     else
      some (.inl ()) : Option ((Unit) ⊕ Bool)).bind fun z=>match z with
    | .inl _ =>
     bif (((r6.1.length:Int) == 0) || (decide ((400:Int) < (r6.1.length:Int)))) then
      some true
     else
      (uK p2 (r6.1.length:Int)).bind fun r12 =>
      (idx r6.1 r12).bind fun e1 =>
      (sV e1).bind fun r13 =>
      (ut F p0 r13).bind fun r14 =>
      (vh F r14.1 e1).bind fun r15 =>
      (vP F r15.1).bind fun r16 =>
      (
       bif (r14.2 == 0) then
        bif (r15.2 == 0) then
         bif (r16.2 == 0) then
          (ui F r16.1 r6.1).bind fun r17 =>
          some r17
         else
          some false
        else
         some false
        else
         some false:Option (Bool)).bind fun z2 =>
      some z2
    | .inr q=>some q
end Go.Proofs.Ytcmkdoahkncakaa
