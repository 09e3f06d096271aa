/- Pure functions, written by walkgen.py out of the Go functions of group LibD. Their conditions: none. -/
import Derived.Test.YtaccejbajgmdnaaDoorLibF
import Derived.Test.YtaccejbajgmdnaaDoorLayB
import Derived.Test.YtaccejbajgmdnaaDoorBld
import Derived.Test.YtaccejbajgmdnaaDoorMap
namespace Go.Proofs.YtaccejbajgmdnaaDoor
set_option linter.unusedVariables false

def strings_Split (p0 : ByteArray) (p1 : ByteArray) : Option (List ByteArray) :=
  if p0.size < 4294967281 ∧ 1 ≤ p1.size then some (Lib.splitB p1 0 (Lib.countB p0 p1) p0) else none

def strings_Count (p0 : ByteArray) (p1 : ByteArray) : Option Int :=
  match p1.data.toList with | [c] => some ((p0.data.toList.count c : Nat) : Int) | _ => none

def strings_HasSuffix (p0 : ByteArray) (p1 : ByteArray) : Option Bool :=
  if p0.size ≤ 9223372036854775807 then some (Lib.hasSuffix p0.data.toList p1.data.toList) else none

def strings_IndexByte (p0 : ByteArray) (p1 : Int) : Option Int := some (Lib.indexByte p0.data.toList p1.toNat.toUInt8)

end Go.Proofs.YtaccejbajgmdnaaDoor
