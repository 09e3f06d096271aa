/- Pure functions, written by walkgen.py out of the Go functions of group WFileApart. Their conditions: none. -/
import Derived.Test.YtiaoncjkfgebdaaFileF
import Derived.Test.YtiaoncjkfgebdaaEqsF
import Derived.Test.YtiaoncjkfgebdaaMap
namespace Go.Proofs.Ytiaoncjkfgebdaa
set_option linter.unusedVariables false

def annalkeep_FileApart (F : Nat) (p0 : (List DElem)) (p1 : Int) (p2 : Int) (p3 : ByteArray) (p4 : Int) : Option (Bool) :=
  (file_Set F ([] : List DElem) 0 5 (ByteArray.mk #[97, 98, 99]) 1).bind fun r1 =>
  (file_Get F r1.1 0 6 1).bind fun r2 =>
  bif ((r1.2 != 0) || ((r2.2 != 0) || (((r1.1.length : Int) != 1) || (!(seq r2.1 (ByteArray.mk #[])))))) then
    some false
  else
    (file_Set F p0 0 p1 p3 p4).bind fun r3 =>
    bif ((r3.2 != 0) || (p1 == p2)) then
      some ((r3.2 == 0) || ((r3.1.length : Int) == 0))
    else
      (file_Get F p0 0 p2 p4).bind fun r4 =>
      (file_Get F r3.1 0 p2 p4).bind fun r5 =>
      (file_Get F r3.1 1 p1 p4).bind fun r6 =>
      (file_Get F p0 1 p1 p4).bind fun r7 =>
      some ((r4.2 == r5.2) && ((seq r4.1 r5.1) && ((r6.2 == r7.2) && (seq r6.1 r7.1))))

end Go.Proofs.Ytiaoncjkfgebdaa
