/- Pure functions, written by walkgen.py out of the Go functions of group WRunFull. Their conditions: none. -/
import Derived.Test.YtiaoncjkfgebdaaRunF
import Derived.Test.YtiaoncjkfgebdaaEqsF
import Derived.Test.YtiaoncjkfgebdaaOps
namespace Go.Proofs.Ytiaoncjkfgebdaa
set_option linter.unusedVariables false

def annalkeep_RunFull (F : Nat) (p0 : Int) (p1 : ByteArray) (p2 : Int) : Option (Bool) :=
  (annalkeep_Within p0 400).bind fun r1 =>
  (annalkeep_Within p2 9).bind fun r2 =>
  (annalkeep_full F).bind fun r3 =>
  (run_Put F r3 (DKey.mk 0 0 1000) (ByteArray.mk #[]) (IntKind.i64.wrap (1 + r2))).bind fun r4 =>
  (annalkeep_full F).bind fun r5 =>
  (run_Put F r5 (DKey.mk 0 0 r1) p1 1).bind fun r6 =>
  (annalkeep_full F).bind fun r7 =>
  (run_Cut F r7 (DKey.mk 0 0 r1) (IntKind.i64.wrap (1 + r2))).bind fun r8 =>
  bif ((r4.2 != 8) || (r8.2 != 0)) then
    some false
  else
    bif decide ((40 : Int) < (p1.size : Int)) then
      some (r6.2 == 2)
    else
      (run_Put F r8.1 (DKey.mk 0 0 1000) (ByteArray.mk #[]) (IntKind.i64.wrap (1 + r2))).bind fun r9 =>
      (
        bif (r6.2 == 0) then
            bif ((r6.1.length : Int) == 400) then
              (idx r6.1 r1).bind fun e1 =>
              bif (seq e1.val p1) then
                some ((r9.2 == 0) == ((IntKind.i64.wrap (1 + r2)) == 1))
              else
                some false
            else
              some false
          else
            some false : Option (Bool)).bind fun z1 =>
      some z1

end Go.Proofs.Ytiaoncjkfgebdaa
