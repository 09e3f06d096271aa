/- Pure functions, written by walkgen.py out of the Go functions of group Rep. Their conditions: none. -/
import Derived.Test.YtaodaihoglcinacLay
import Derived.Test.YtaodaihoglcinacMap
namespace Go.Proofs.Ytaodaihoglcinac
set_option linter.unusedVariables false

def strings_Repeat (p0 : ByteArray) (p1 : Int) : Option ByteArray := if 0 ≤ p1 ∧ p1 ≤ 100000 ∧ p0.size ≤ 100000 then some ⟨(Lib.repeatL p0.data.toList p1.toNat).toArray⟩ else none

end Go.Proofs.Ytaodaihoglcinac
