/- Pure functions, written by walkgen.py out of the Go functions of group WPageOne. Their conditions: none. -/
import Derived.Test.YtldlakjemifdmaaPageF
import Derived.Test.YtldlakjemifdmaaMap
namespace Go.Proofs.Ytldlakjemifdmaa
set_option linter.unusedVariables false

def annalkeep_PageOne (F : Nat) (p0 : ByteArray) : Option (Bool) :=
  (page_Read F (ByteArray.mk #[1, 0, 0, 0, 0])).bind fun r1 =>
  bif (r1.2 != 6) then
    some false
  else
    (page_Read F p0).bind fun r2 =>
    bif (r2.2 != 0) then
      (annalref_SameNode F r2.1 (DNode.mk 0 [] [] [] [])).bind fun r3 =>
      some r3
    else
      (page_Write F r2.1).bind fun r4 =>
      some ((r4.2 == 0) && (seq r4.1 p0))

end Go.Proofs.Ytldlakjemifdmaa
