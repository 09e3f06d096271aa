/- Pure functions, written by walkgen.py out of the Go functions of group WChangeNone. Their conditions: none. -/
import Derived.Test.YtiaoncjkfgebdaaChangeF
import Derived.Test.YtiaoncjkfgebdaaEqsF
import Derived.Test.YtiaoncjkfgebdaaOps
namespace Go.Proofs.Ytiaoncjkfgebdaa
set_option linter.unusedVariables false

def annalkeep_ChangeNone (F : Nat) (p0 : (List DElem)) (p1 : Int) (p2 : Int) : Option (Bool) :=
  (annalkeep_two).bind fun r1 =>
  (change_Between F r1 2 3).bind fun r2 =>
  (
    bif (r2.2 != 0) then
        some true
      else
        (slices_Equal_Change F r2.1 [(DChange.mk (DKey.mk 0 0 0) true true (ByteArray.mk #[97]) (ByteArray.mk #[98]))]).bind fun r3 =>
        some (!r3) : Option (Bool)).bind fun z1 =>
  bif z1 then
    some false
  else
    (change_Between F p0 p1 p1).bind fun r4 =>
    (change_Between F p0 p1 p2).bind fun r5 =>
    (change_Between F p0 p2 p1).bind fun r6 =>
    bif ((r4.2 != 0) || ((r5.2 != 0) || (r6.2 != 0))) then
      some ((r4.2 == r5.2) && ((r5.2 == r6.2) && (((r4.1.length : Int) == 0) && ((r5.1.length : Int) == 0))))
    else
      (change_Back F r5.1).bind fun r7 =>
      (change_Back F r7.1).bind fun r8 =>
      (
        bif (r7.2 == 0) then
            bif (r8.2 == 0) then
              bif ((r4.1.length : Int) == 0) then
                (slices_Equal_Change F r7.1 r6.1).bind fun r9 =>
                bif r9 then
                  (slices_Equal_Change F r8.1 r5.1).bind fun r10 =>
                  some r10
                else
                  some false
              else
                some false
            else
              some false
          else
            some false : Option (Bool)).bind fun z2 =>
      some z2

end Go.Proofs.Ytiaoncjkfgebdaa
