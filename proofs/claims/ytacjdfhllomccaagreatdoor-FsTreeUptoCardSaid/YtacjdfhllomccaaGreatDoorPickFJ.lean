/- Pure functions, written by walkgen.py out of the Go functions of group Pick. Their conditions: none. -/
import Derived.Test.YtacjdfhllomccaaGreatDoorCodeFJ
import Derived.Test.YtacjdfhllomccaaGreatDoorMapJ
namespace Go.Proofs.YtacjdfhllomccaaGreatDoor
set_option linter.unusedVariables false
def annalkeep_num (p0 : (List Int)) (p1 : Int) : Option (Int) :=
 bif decide (p1 < (p0.length : Int)) then
  (idx p0 p1).bind fun e1 =>
  some e1
 else
  some 0
def annalkeep_pick (p0 : (List ByteArray)) (p1 : Int) : Option (ByteArray) :=
 bif ((p0.length : Int) == 0) then
  some (ByteArray.mk #[])
 else
  (annalkeep_Within p1 (p0.length : Int)).bind fun r1 =>
  (idx p0 r1).bind fun e1 =>
  some e1
end Go.Proofs.YtacjdfhllomccaaGreatDoor
