/- Pure functions of group WWritePast. Conditions: none. -/
import Derived.Test.YtcmkdoahkncakaaWrPFH
import Derived.Test.YtcmkdoahkncakaaWrCFH
import Derived.Test.YtcmkdoahkncakaaPastAFH
import Derived.Test.YtcmkdoahkncakaaBuildFH
import Derived.Test.YtcmkdoahkncakaaMapH
namespace Go.Proofs.Ytcmkdoahkncakaa
set_option linter.unusedVariables false
def yn (F:Nat) (p0:DTree) (p1:DKey) (p2:DKey) (p3:ByteArray) (p4:Int) (p5:Int) : Option (Bool) :=
 (yj 1 (ByteArray.mk #[97])).bind fun r1 =>
 (yr F [r1]).bind fun r2 =>
 (yA F r2 (DKey.mk 0 0 1) (ByteArray.mk #[98]) 2).bind fun r3 =>
 (zo F r3.1 (DKey.mk 0 0 1) 1).bind fun r4 =>
 bif ((r3.2 != 0) || ((r4.2 != 0) || (!(seq r4.1.val (ByteArray.mk #[97]))))) then
  some false
 else
  (yA F p0 p1 p3 p4).bind fun r5 =>
  (zr F p0 p1 p4).bind fun r6 =>
  (zo F p0 p2 (if (IntKind.i64.wrap (p4 - 1)) < p5 then IntKind.i64.wrap (p4 - 1) else p5)).bind fun r7 =>
  (
   bif (r5.2 == 0) then
    (zo F r5.1 p2 (if (IntKind.i64.wrap (p4 - 1)) < p5 then IntKind.i64.wrap (p4 - 1) else p5)).bind fun r8 =>
    bif ((r7.2 != r8.2) || ((!(seq r7.1.val r8.1.val)) || (r7.1.made != r8.1.made))) then
     some (.inr false)
    else
     some (.inl ())
    else
     some (.inl ()) : Option ((Unit) ⊕ Bool)).bind fun z=>match z with
   | .inl _ =>
    (
     bif (r6.2 == 0) then
      (zo F r6.1 p2 (if (IntKind.i64.wrap (p4 - 1)) < p5 then IntKind.i64.wrap (p4 - 1) else p5)).bind fun r9 =>
      bif ((r7.2 != r9.2) || ((!(seq r7.1.val r9.1.val)) || (r7.1.made != r9.1.made))) then
       some (.inr false)
      else
       some (.inl ())
      else
       some (.inl ()) : Option ((Unit) ⊕ Bool)).bind fun z=>match z with
     | .inl _ =>
      some true
     | .inr q=>some q
   | .inr q=>some q
end Go.Proofs.Ytcmkdoahkncakaa
