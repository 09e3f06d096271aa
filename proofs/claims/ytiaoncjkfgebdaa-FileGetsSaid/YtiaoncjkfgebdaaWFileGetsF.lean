/- Pure functions, written by walkgen.py out of the Go functions of group WFileGets. Their conditions: none. -/
import Derived.Test.YtiaoncjkfgebdaaFileF
import Derived.Test.YtiaoncjkfgebdaaEqsF
import Derived.Test.YtiaoncjkfgebdaaMap
namespace Go.Proofs.Ytiaoncjkfgebdaa
set_option linter.unusedVariables false

def annalkeep_FileGets (F : Nat) (p0 : (List DElem)) (p1 : Int) (p2 : Int) (p3 : ByteArray) (p4 : Int) (p5 : Int) : Option (Bool) :=
  (file_Set F ([] : List DElem) 0 5 (ByteArray.mk #[115, 101, 118, 101, 110, 116, 101, 101, 110, 32, 98, 121, 116, 101, 115, 46, 46]) 1).bind fun r1 =>
  (file_Get F r1.1 0 5 1).bind fun r2 =>
  bif ((r1.2 != 0) || ((r2.2 != 0) || (((r1.1.length : Int) != 2) || (!(seq r2.1 (ByteArray.mk #[115, 101, 118, 101, 110, 116, 101, 101, 110, 32, 98, 121, 116, 101, 115, 46, 46])))))) then
    some false
  else
    (file_Set F p0 p1 p2 p3 p4).bind fun r3 =>
    bif (r3.2 != 0) then
      some ((r3.1.length : Int) == 0)
    else
      (file_Get F r3.1 p1 p2 (if p5 < p4 then p4 else p5)).bind fun r4 =>
      (file_Get F r3.1 p1 p2 (if (IntKind.i64.wrap (p4 - 1)) < p5 then IntKind.i64.wrap (p4 - 1) else p5)).bind fun r5 =>
      (file_Get F p0 p1 p2 (if (IntKind.i64.wrap (p4 - 1)) < p5 then IntKind.i64.wrap (p4 - 1) else p5)).bind fun r6 =>
      (
        bif (r4.2 == 0) then
            bif (r5.2 == 0) then
              bif (r6.2 == 0) then
                bif (seq r4.1 p3) then
                  bif (seq r5.1 r6.1) then
                    (run_Check F r3.1).bind fun r7 =>
                    some (r7 == 0)
                  else
                    some false
                else
                  some false
              else
                some false
            else
              some false
          else
            some false : Option (Bool)).bind fun z1 =>
      some z1

end Go.Proofs.Ytiaoncjkfgebdaa
