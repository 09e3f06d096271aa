/- Pure functions, written by walkgen.py out of the Go functions of group WRunPast. Their conditions: none. -/
import Derived.Test.YtiaoncjkfgebdaaRunF
import Derived.Test.YtiaoncjkfgebdaaEqsF
import Derived.Test.YtiaoncjkfgebdaaOps
namespace Go.Proofs.Ytiaoncjkfgebdaa
set_option linter.unusedVariables false

def annalkeep_RunPast (F : Nat) (p0 : (List DElem)) (p1 : DKey) (p2 : DKey) (p3 : ByteArray) (p4 : Int) (p5 : Int) : Option (Bool) :=
  (annalkeep_at1 1 (ByteArray.mk #[97])).bind fun r1 =>
  (run_Put F [r1] (DKey.mk 0 0 1) (ByteArray.mk #[98]) 2).bind fun r2 =>
  (
    bif (r2.2 != 0) then
        some true
      else
        (slices_Equal_Elem F r2.1 [(DElem.mk (DKey.mk 0 0 1) 1 2 (ByteArray.mk #[97])), (DElem.mk (DKey.mk 0 0 1) 2 0 (ByteArray.mk #[98]))]).bind fun r3 =>
        some (!r3) : Option (Bool)).bind fun z1 =>
  bif z1 then
    some false
  else
    (run_Put F p0 p1 p3 p4).bind fun r4 =>
    bif (r4.2 != 0) then
      some ((r4.1.length : Int) == 0)
    else
      (run_At F p0 p1 (if (IntKind.i64.wrap (p4 - 1)) < p5 then IntKind.i64.wrap (p4 - 1) else p5)).bind fun r5 =>
      (run_At F r4.1 p1 (if (IntKind.i64.wrap (p4 - 1)) < p5 then IntKind.i64.wrap (p4 - 1) else p5)).bind fun r6 =>
      (run_At F p0 p2 p4).bind fun r7 =>
      (run_At F r4.1 p2 p4).bind fun r8 =>
      (
        (run_Check F r4.1).bind fun r9 =>
          bif (r9 != 0) then
            some true
          else
            bif (r5.2 != r6.2) then
              some true
            else
              bif (!(seq r5.1.val r6.1.val)) then
                some true
              else
                some (r5.1.made != r6.1.made) : Option (Bool)).bind fun z2 =>
      bif z2 then
        some false
      else
        some ((p2 == p1) || ((r7.2 == r8.2) && (r7.1 == r8.1)))

end Go.Proofs.Ytiaoncjkfgebdaa
