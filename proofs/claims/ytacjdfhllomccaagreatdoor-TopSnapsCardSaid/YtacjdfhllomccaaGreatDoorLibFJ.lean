/- Pure functions, written by walkgen.py out of the Go functions of group Lib. Their conditions: none. -/
import Derived.Test.YtacjdfhllomccaaGreatDoorLayJ
import Derived.Test.YtacjdfhllomccaaGreatDoorErrJ
import Derived.Test.YtacjdfhllomccaaGreatDoorMapJ
namespace Go.Proofs.YtacjdfhllomccaaGreatDoor
set_option linter.unusedVariables false
def strings_Cut (p0 : ByteArray) (p1 : ByteArray) : Option (ByteArray × ByteArray × Bool) :=
 if p0.size < 4294967281 then some (ByteArray.mk (Lib.cut p0.data.toList p1.data.toList).1.toArray, ByteArray.mk (Lib.cut p0.data.toList p1.data.toList).2.1.toArray, (Lib.cut p0.data.toList p1.data.toList).2.2) else none
def strconv_Atoi (p0 : ByteArray) : Option (Int × Bool) :=
 if p0.size ≤ 281474976710656 then (match Lib.atoiAll p0.data.toList with | .ok v => some (v, false) | .range => some (Lib.atoiSat p0.data.toList, true) | _ => some (0, true)) else none
def strconv_Itoa (p0 : Int) : Option ByteArray :=
 if -9223372036854775808 ≤ p0 ∧ p0 ≤ 9223372036854775807 then some (ByteArray.mk (Lib.itoa p0).toArray) else none
end Go.Proofs.YtacjdfhllomccaaGreatDoor
