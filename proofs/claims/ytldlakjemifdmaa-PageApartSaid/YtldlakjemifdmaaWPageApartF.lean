/- Pure functions, written by walkgen.py out of the Go functions of group WPageApart. Their conditions: none. -/
import Derived.Test.YtldlakjemifdmaaPageF
import Derived.Test.YtldlakjemifdmaaMap
namespace Go.Proofs.Ytldlakjemifdmaa
set_option linter.unusedVariables false

def annalkeep_PageApart (F : Nat) (p0 : DNode) (p1 : DNode) : Option (Bool) :=
  (page_Write F (DNode.mk 0 [] [] [] [])).bind fun r1 =>
  (
    bif (r1.2 != 0) then
        some true
      else
        bif decide ((r1.1.size : Int) < 3) then
          some true
        else
          (sslice r1.1 0 3).bind fun s1 =>
          some (!(seq s1 (ByteArray.mk #[1, 0, 0]))) : Option (Bool)).bind fun z1 =>
  bif z1 then
    some false
  else
    (page_Write F p0).bind fun r2 =>
    (page_Write F p1).bind fun r3 =>
    bif ((r2.2 != 0) || (r3.2 != 0)) then
      some ((r2.2 == 0) || (seq r2.1 (ByteArray.mk #[])))
    else
      (annalref_SameNode F p0 p1).bind fun r4 =>
      some ((seq r2.1 r3.1) == r4)

end Go.Proofs.Ytldlakjemifdmaa
