/- Pure functions, written by walkgen.py out of the Go functions of group WFileSame. Their conditions: none. -/
import Derived.Test.YtiaoncjkfgebdaaFileF
import Derived.Test.YtiaoncjkfgebdaaEqsF
import Derived.Test.YtiaoncjkfgebdaaMap
namespace Go.Proofs.Ytiaoncjkfgebdaa
set_option linter.unusedVariables false

def annalkeep_FileSame (F : Nat) (p0 : (List DElem)) (p1 : Int) (p2 : Int) (p3 : Int) : Option (Bool) :=
  (file_Set F ([] : List DElem) 0 5 (ByteArray.mk #[97, 98, 99]) 1).bind fun r1 =>
  (file_Set F r1.1 0 5 (ByteArray.mk #[]) 2).bind fun r2 =>
  (
    bif (r1.2 != 0) then
        some true
      else
        bif (r2.2 != 0) then
          some true
        else
          bif ((r1.1.length : Int) != 1) then
            some true
          else
            bif ((r2.1.length : Int) != 1) then
              some true
            else
              (idx r2.1 0).bind fun e1 =>
              some (e1.gone != 2) : Option (Bool)).bind fun z1 =>
  bif z1 then
    some false
  else
    (file_Get F p0 p1 p2 2147483647).bind fun r3 =>
    (file_Set F p0 p1 p2 r3.1 p3).bind fun r4 =>
    (file_Set F p0 p1 p2 (ByteArray.mk #[]) p3).bind fun r5 =>
    bif ((r3.2 != 0) || ((r4.2 != 0) || (r5.2 != 0))) then
      some ((r3.2 == 0) || (seq r3.1 (ByteArray.mk #[])))
    else
      (file_Set F r4.1 p1 p2 r3.1 p3).bind fun r6 =>
      (file_Get F r5.1 p1 p2 2147483647).bind fun r7 =>
      (
        bif (r6.2 == 0) then
            bif (r7.2 == 0) then
              (slices_Equal_Elem F r6.1 r4.1).bind fun r8 =>
              bif r8 then
                some (seq r7.1 (ByteArray.mk #[]))
              else
                some false
            else
              some false
          else
            some false : Option (Bool)).bind fun z2 =>
      some z2

end Go.Proofs.Ytiaoncjkfgebdaa
