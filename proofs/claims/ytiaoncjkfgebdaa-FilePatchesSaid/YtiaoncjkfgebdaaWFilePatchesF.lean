/- Pure functions, written by walkgen.py out of the Go functions of group WFilePatches. Their conditions: none. -/
import Derived.Test.YtiaoncjkfgebdaaFileF
import Derived.Test.YtiaoncjkfgebdaaEqsF
import Derived.Test.YtiaoncjkfgebdaaMap
namespace Go.Proofs.Ytiaoncjkfgebdaa
set_option linter.unusedVariables false

def annalkeep_FilePatches (F : Nat) (p0 : (List DElem)) (p1 : Int) (p2 : Int) (p3 : Int) (p4 : ByteArray) (p5 : Int) : Option (Bool) :=
  (file_Set F ([] : List DElem) 0 5 (ByteArray.mk #[97, 98, 99]) 1).bind fun r1 =>
  (file_Patch F r1.1 0 5 1 (ByteArray.mk #[88, 89, 90]) 2).bind fun r2 =>
  (file_Get F r2.1 0 5 2).bind fun r3 =>
  bif ((r1.2 != 0) || ((r2.2 != 0) || ((r3.2 != 0) || (!(seq r3.1 (ByteArray.mk #[97, 88, 89, 90])))))) then
    some false
  else
    (file_Get F p0 p1 p2 2147483647).bind fun r4 =>
    (file_Patch F p0 p1 p2 p3 p4 p5).bind fun r5 =>
    bif ((r4.2 != 0) || (r5.2 != 0)) then
      some ((r5.1.length : Int) == 0)
    else
      (file_Get F r5.1 p1 p2 p5).bind fun r6 =>
      bif ((r6.2 != 0) || ((decide (p3 < 0)) || ((decide ((r6.1.size : Int) < (IntKind.i64.wrap (p3 + (p4.size : Int))))) || ((r6.1.size : Int) != (if (r4.1.size : Int) < (IntKind.i64.wrap (p3 + (p4.size : Int))) then IntKind.i64.wrap (p3 + (p4.size : Int)) else (r4.1.size : Int)))))) then
        some false
      else
        (
          (sslice r6.1 0 p3).bind fun s1 =>
            (sslice r4.1 0 p3).bind fun s2 =>
            bif (seq s1 s2) then
              (sslice r6.1 p3 (IntKind.i64.wrap (p3 + (p4.size : Int)))).bind fun s3 =>
              bif (seq s3 p4) then
                (sslice r6.1 (IntKind.i64.wrap (p3 + (p4.size : Int))) (r6.1.size : Int)).bind fun s4 =>
                (sslice r4.1 (if (IntKind.i64.wrap (p3 + (p4.size : Int))) < (r4.1.size : Int) then IntKind.i64.wrap (p3 + (p4.size : Int)) else (r4.1.size : Int)) (r4.1.size : Int)).bind fun s5 =>
                some (seq s4 s5)
              else
                some false
            else
              some false : Option (Bool)).bind fun z1 =>
        some z1

end Go.Proofs.Ytiaoncjkfgebdaa
