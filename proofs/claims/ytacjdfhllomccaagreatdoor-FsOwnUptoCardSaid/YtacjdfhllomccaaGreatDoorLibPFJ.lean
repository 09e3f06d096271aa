/- Pure functions, written by walkgen.py out of the Go functions of group LibP. Their conditions: none. -/
import Derived.Test.YtacjdfhllomccaaGreatDoorLibFJ
import Derived.Test.YtacjdfhllomccaaGreatDoorMapJ
namespace Go.Proofs.YtacjdfhllomccaaGreatDoor
set_option linter.unusedVariables false
def internal_stringslite_HasPrefix (p0 : ByteArray) (p1 : ByteArray) : Option (Bool) :=
 (
  bif decide ((p1.size : Int) ≤ (p0.size : Int)) then
   (sslice p0 0 (p1.size : Int)).bind fun s1 =>
   some (seq s1 p1)
   else
    some false : Option (Bool)).bind fun z1 =>
 some z1
def strings_HasPrefix (p0 : ByteArray) (p1 : ByteArray) : Option (Bool) :=
 (internal_stringslite_HasPrefix p0 p1).bind fun r1 =>
 some r1
end Go.Proofs.YtacjdfhllomccaaGreatDoor
