/- Pure functions, written by walkgen.py out of the Go functions of group WPastSame. Their conditions: none. -/
import Derived.Test.YtoaopihihccfkaaPastAF
import Derived.Test.YtoaopihihccfkaaPastRF
import Derived.Test.YtoaopihihccfkaaBuildF
import Derived.Test.YtoaopihihccfkaaEqsF
import Derived.Test.YtoaopihihccfkaaMap
namespace Go.Proofs.Ytoaopihihccfkaa
set_option linter.unusedVariables false

def annalkeep_PastSame (F : Nat) (p0 : DTree) (p1 : DKey) (p2 : DKey) (p3 : DKey) (p4 : Int) : Option (Bool) :=
  (annalkeep_at1 1 (ByteArray.mk #[97])).bind fun r1 =>
  (annalkeep_of F [r1]).bind fun r2 =>
  (past_At F r2 (DKey.mk 0 0 1) 1).bind fun r3 =>
  (
    bif (r3.2 != 0) then
        some true
      else
        (annalkeep_at1 1 (ByteArray.mk #[97])).bind fun r4 =>
        some (!(r3.1 == r4)) : Option (Bool)).bind fun z1 =>
  bif z1 then
    some false
  else
    (tree_All F p0).bind fun r5 =>
    (
      bif (r5.2 != 0) then
          some true
        else
          (run_Check F r5.1).bind fun r6 =>
          some (r6 != 0) : Option (Bool)).bind fun z2 =>
    bif z2 then
      some true
    else
      (past_At F p0 p1 p4).bind fun r7 =>
      (run_At F r5.1 p1 p4).bind fun r8 =>
      (past_Range F p0 p2 p3 p4).bind fun r9 =>
      (run_Range F r5.1 p2 p3 p4).bind fun r10 =>
      (
        bif (r7.1 == r8.1) then
            bif (r7.2 == r8.2) then
              (slices_Equal_Elem F r9.1 r10.1).bind fun r11 =>
              bif r11 then
                some (r9.2 == r10.2)
              else
                some false
            else
              some false
          else
            some false : Option (Bool)).bind fun z3 =>
      some z3

end Go.Proofs.Ytoaopihihccfkaa
