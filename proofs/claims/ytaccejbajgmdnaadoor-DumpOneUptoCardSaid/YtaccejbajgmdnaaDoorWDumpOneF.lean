/- Pure functions, written by walkgen.py out of the Go functions of group WDumpOne. Their conditions: none. -/
import Derived.Test.YtaccejbajgmdnaaDoorRecdF
import Derived.Test.YtaccejbajgmdnaaDoorEqsF
import Derived.Test.YtaccejbajgmdnaaDoorMap
namespace Go.Proofs.YtaccejbajgmdnaaDoor
set_option linter.unusedVariables false

def annalkeep_DumpOne (F : Nat) (p0 : ByteArray) : Option (Bool) :=
  (dump_Read F (ByteArray.mk #[48, 32, 48, 32, 48, 32, 49, 32, 48, 32, 95, 10])).bind fun r1 =>
  (
    bif (r1.2 != 0) then
        some true
      else
        (slices_Equal_Elem F r1.1 [(DElem.mk (DKey.mk 0 0 0) 1 0 (ByteArray.mk #[]))]).bind fun r2 =>
        some (!r2) : Option (Bool)).bind fun z1 =>
  bif z1 then
    some false
  else
    (dump_Read F p0).bind fun r3 =>
    bif (r3.2 != 0) then
      some ((r3.2 == 3) && ((r3.1.length : Int) == 0))
    else
      (dump_Print F r3.1).bind fun r4 =>
      some ((r4.2 == 0) && (seq r4.1 p0))

end Go.Proofs.YtaccejbajgmdnaaDoor
