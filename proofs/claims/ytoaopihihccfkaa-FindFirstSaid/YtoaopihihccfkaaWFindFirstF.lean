/- Pure functions, written by walkgen.py out of the Go functions of group WFindFirst. Their conditions: none. -/
import Derived.Test.YtoaopihihccfkaaFindSF
import Derived.Test.YtoaopihihccfkaaFindFF
import Derived.Test.YtoaopihihccfkaaBuildF
import Derived.Test.YtoaopihihccfkaaTreeF
import Derived.Test.YtoaopihihccfkaaMap
namespace Go.Proofs.Ytoaopihihccfkaa
set_option linter.unusedVariables false

def annalkeep_FindFirst (F : Nat) (p0 : DTree) (p1 : DSpot) : Option (Bool) :=
  (annalkeep_at1 1 (ByteArray.mk #[97])).bind fun r1 =>
  (annalkeep_of F [r1]).bind fun r2 =>
  (find_From F r2 (DSpot.mk (DKey.mk 0 0 0) 0) 5).bind fun r3 =>
  bif ((r3.2 != 0) || ((r3.1.length : Int) != 1)) then
    some false
  else
    (find_Spot F p0 p1).bind fun r4 =>
    (find_From F p0 p1 1).bind fun r5 =>
    (tree_Check F p0).bind fun r6 =>
    bif (r6 != 0) then
      some ((r4.2 == r5.2) && ((r4.1 == (DElem.mk (DKey.mk 0 0 0) 0 0 (ByteArray.mk #[]))) && ((r5.1.length : Int) == 0)))
    else
      bif (r4.2 != 0) then
        (
          bif (r4.2 == 4) then
              bif (r5.2 == 0) then
                bif ((r5.1.length : Int) == 0) then
                  some true
                else
                  (idx r5.1 0).bind fun e1 =>
                  (elem_Spot e1).bind fun r7 =>
                  (key_CmpSpot p1 r7).bind fun r8 =>
                  some (decide (r8 < 0))
              else
                some false
            else
              some false : Option (Bool)).bind fun z1 =>
        some z1
      else
        (
          bif (r5.2 == 0) then
              bif ((r5.1.length : Int) == 1) then
                (idx r5.1 0).bind fun e2 =>
                bif (e2 == r4.1) then
                  (elem_Spot r4.1).bind fun r9 =>
                  some (r9 == p1)
                else
                  some false
              else
                some false
            else
              some false : Option (Bool)).bind fun z2 =>
        some z2

end Go.Proofs.Ytoaopihihccfkaa
