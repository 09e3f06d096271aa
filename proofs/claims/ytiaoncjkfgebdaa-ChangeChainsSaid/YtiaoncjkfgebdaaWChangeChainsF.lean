/- Pure functions, written by walkgen.py out of the Go functions of group WChangeChains. Their conditions: none. -/
import Derived.Test.YtiaoncjkfgebdaaChangeF
import Derived.Test.YtiaoncjkfgebdaaEqsF
import Derived.Test.YtiaoncjkfgebdaaOps
namespace Go.Proofs.Ytiaoncjkfgebdaa
set_option linter.unusedVariables false

def annalkeep_ChangeChains (F : Nat) (p0 : (List DElem)) (p1 : Int) (p2 : Int) (p3 : Int) : Option (Bool) :=
  (annalkeep_two).bind fun r1 =>
  (change_Between F r1 0 2).bind fun r2 =>
  (annalkeep_two).bind fun r3 =>
  (change_Between F r3 2 3).bind fun r4 =>
  (change_Then F r2.1 r4.1).bind fun r5 =>
  (
    bif (r2.2 != 0) then
        some true
      else
        bif (r4.2 != 0) then
          some true
        else
          bif (r5.2 != 0) then
            some true
          else
            (slices_Equal_Change F r5.1 [(DChange.mk (DKey.mk 0 0 0) false true (ByteArray.mk #[]) (ByteArray.mk #[98]))]).bind fun r6 =>
            some (!r6) : Option (Bool)).bind fun z1 =>
  bif z1 then
    some false
  else
    (change_Between F p0 p1 p2).bind fun r7 =>
    (change_Between F p0 p2 p3).bind fun r8 =>
    (change_Between F p0 p1 p3).bind fun r9 =>
    bif ((r7.2 != 0) || ((r8.2 != 0) || (r9.2 != 0))) then
      some ((r7.2 == r8.2) && ((r8.2 == r9.2) && ((r7.1.length : Int) == 0)))
    else
      (change_Then F r7.1 r8.1).bind fun r10 =>
      (
        bif (r10.2 == 0) then
            (slices_Equal_Change F r10.1 r9.1).bind fun r11 =>
            some r11
          else
            some false : Option (Bool)).bind fun z2 =>
      some z2

end Go.Proofs.Ytiaoncjkfgebdaa
