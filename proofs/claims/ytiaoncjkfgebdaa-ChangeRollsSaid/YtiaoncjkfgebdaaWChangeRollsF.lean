/- Pure functions, written by walkgen.py out of the Go functions of group WChangeRolls. Their conditions: none. -/
import Derived.Test.YtiaoncjkfgebdaaChangeF
import Derived.Test.YtiaoncjkfgebdaaEqsF
import Derived.Test.YtiaoncjkfgebdaaOps
namespace Go.Proofs.Ytiaoncjkfgebdaa
set_option linter.unusedVariables false

def annalkeep_ChangeRolls (F : Nat) (p0 : (List DElem)) (p1 : Int) (p2 : Int) (p3 : DKey) : Option (Bool) :=
  (annalkeep_two).bind fun r1 =>
  (change_Between F r1 9 2).bind fun r2 =>
  (annalkeep_two).bind fun r3 =>
  (change_Do F r3 r2.1 5).bind fun r4 =>
  (
    bif (r2.2 != 0) then
        some true
      else
        bif (r4.2 != 0) then
          some true
        else
          bif ((r4.1.length : Int) != 3) then
            some true
          else
            (idx r4.1 2).bind fun e1 =>
            bif (!(seq e1.val (ByteArray.mk #[97]))) then
              some true
            else
              (idx r4.1 2).bind fun e2 =>
              some (e2.made != 5) : Option (Bool)).bind fun z1 =>
  bif z1 then
    some false
  else
    (change_Between F p0 2147483647 p1).bind fun r5 =>
    bif (r5.2 != 0) then
      some ((r5.1.length : Int) == 0)
    else
      (change_Do F p0 r5.1 p2).bind fun r6 =>
      bif (r6.2 != 0) then
        some ((r6.2 == 9) || (r6.2 == 8))
      else
        (run_At F p0 p3 p1).bind fun r7 =>
        (run_At F r6.1 p3 p2).bind fun r8 =>
        (
          bif (r7.2 != r8.2) then
              some true
            else
              bif (!(seq r7.1.val r8.1.val)) then
                some true
              else
                (run_Check F r6.1).bind fun r9 =>
                some (r9 != 0) : Option (Bool)).bind fun z2 =>
        bif z2 then
          some false
        else
          (change_Between F r6.1 (if (IntKind.i64.wrap (p2 - 1)) < p1 then IntKind.i64.wrap (p2 - 1) else p1) p2).bind fun r10 =>
          bif decide (p2 ≤ p1) then
            some (r10.2 == 0)
          else
            some ((r10.2 == 0) && ((r10.1.length : Int) == 0))

end Go.Proofs.Ytiaoncjkfgebdaa
