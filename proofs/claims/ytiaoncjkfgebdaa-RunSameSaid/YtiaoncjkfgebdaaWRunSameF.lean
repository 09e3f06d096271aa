/- Pure functions, written by walkgen.py out of the Go functions of group WRunSame. Their conditions: none. -/
import Derived.Test.YtiaoncjkfgebdaaRunF
import Derived.Test.YtiaoncjkfgebdaaEqsF
import Derived.Test.YtiaoncjkfgebdaaOps
namespace Go.Proofs.Ytiaoncjkfgebdaa
set_option linter.unusedVariables false

def annalkeep_RunSame (F : Nat) (p0 : (List DElem)) (p1 : DKey) (p2 : DKey) (p3 : ByteArray) (p4 : ByteArray) (p5 : Int) : Option (Bool) :=
  (annalkeep_at1 1 (ByteArray.mk #[97])).bind fun r1 =>
  (run_Cut F [r1] (DKey.mk 0 0 1) 5).bind fun r2 =>
  (
    bif (r2.2 != 0) then
        some true
      else
        bif ((r2.1.length : Int) != 1) then
          some true
        else
          (idx r2.1 0).bind fun e1 =>
          some (e1.gone != 5) : Option (Bool)).bind fun z1 =>
  bif z1 then
    some false
  else
    (run_Put F p0 p1 p3 p5).bind fun r3 =>
    (run_Put F p0 p2 p4 p5).bind fun r4 =>
    bif ((r3.2 != 0) || (r4.2 != 0)) then
      some ((r3.2 == 0) || ((r3.1.length : Int) == 0))
    else
      (run_Put F r3.1 p2 p4 p5).bind fun r5 =>
      (run_Put F r4.1 p1 p3 p5).bind fun r6 =>
      (
        bif (!(p1 == p2)) then
            bif (r5.2 == 0) then
              bif (r6.2 != 0) then
                some true
              else
                (slices_Equal_Elem F r5.1 r6.1).bind fun r7 =>
                some (!r7)
            else
              some false
          else
            some false : Option (Bool)).bind fun z2 =>
      bif z2 then
        some false
      else
        (run_Put F r3.1 p1 p3 p5).bind fun r8 =>
        (
          bif (r8.2 != 0) then
              some true
            else
              (slices_Equal_Elem F r8.1 r3.1).bind fun r9 =>
              some (!r9) : Option (Bool)).bind fun z3 =>
        bif z3 then
          some false
        else
          (run_Cut F r3.1 p1 p5).bind fun r10 =>
          (run_Cut F p0 p1 p5).bind fun r11 =>
          bif (r11.2 == 4) then
            (
              bif (r10.2 == 0) then
                  (slices_Equal_Elem F r10.1 p0).bind fun r12 =>
                  some r12
                else
                  some false : Option (Bool)).bind fun z4 =>
            some z4
          else
            (
              bif (r10.2 == 0) then
                  bif (r11.2 == 0) then
                    (slices_Equal_Elem F r10.1 r11.1).bind fun r13 =>
                    some r13
                  else
                    some false
                else
                  some false : Option (Bool)).bind fun z5 =>
            some z5

end Go.Proofs.Ytiaoncjkfgebdaa
