/- Pure functions, written by walkgen.py out of the Go functions of group WPastEach. Their conditions: none. -/
import Derived.Test.YtoaopihihccfkaaPastAF
import Derived.Test.YtoaopihihccfkaaBuildF
import Derived.Test.YtoaopihihccfkaaMap
namespace Go.Proofs.Ytoaopihihccfkaa
set_option linter.unusedVariables false

def annalkeep_PastEach (F : Nat) (p0 : DTree) (p1 : Int) : Option (Bool) :=
  (annalkeep_of F [(DElem.mk (DKey.mk 0 0 1) 1 3 (ByteArray.mk #[]))]).bind fun r1 =>
  (past_At F r1 (DKey.mk 0 0 1) 2).bind fun r2 =>
  bif ((r2.2 != 0) || (!(r2.1 == (DElem.mk (DKey.mk 0 0 1) 1 3 (ByteArray.mk #[]))))) then
    some false
  else
    (tree_All F p0).bind fun r3 =>
    (
      bif (r3.2 != 0) then
          some true
        else
          (past_Check F p0).bind fun r4 =>
          bif (r4 != 0) then
            some true
          else
            some ((r3.1.length : Int) == 0) : Option (Bool)).bind fun z1 =>
    bif z1 then
      some true
    else
      (annalkeep_Within p1 (r3.1.length : Int)).bind fun r5 =>
      (idx r3.1 r5).bind fun e1 =>
      (past_At F p0 e1.key e1.made).bind fun r6 =>
      (past_At F p0 e1.key e1.gone).bind fun r7 =>
      some ((r6.2 == 0) && ((r6.1 == e1) && ((e1.gone == 0) || ((r7.2 != 0) || (!(r7.1 == e1))))))

end Go.Proofs.Ytoaopihihccfkaa
