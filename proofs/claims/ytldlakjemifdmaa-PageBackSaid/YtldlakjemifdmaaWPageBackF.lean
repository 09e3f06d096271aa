/- Pure functions, written by walkgen.py out of the Go functions of group WPageBack. Their conditions: none. -/
import Derived.Test.YtldlakjemifdmaaPageF
import Derived.Test.YtldlakjemifdmaaMap
namespace Go.Proofs.Ytldlakjemifdmaa
set_option linter.unusedVariables false

def annalkeep_PageBack (F : Nat) (p0 : DNode) (p1 : Int) : Option (Bool) :=
  (page_Write F (DNode.mk 1 [] [] [] [])).bind fun r1 =>
  bif ((r1.2 != 0) || ((r1.1.size : Int) != 5)) then
    some false
  else
    (page_Write F p0).bind fun r2 =>
    bif (r2.2 != 0) then
      (
        bif (seq r2.1 (ByteArray.mk #[])) then
            (node_Check F p0).bind fun r3 =>
            some (r2.2 == r3)
          else
            some false : Option (Bool)).bind fun z1 =>
      some z1
    else
      (page_Read F r2.1).bind fun r4 =>
      (annalkeep_Within p1 (r2.1.size : Int)).bind fun r5 =>
      (sslice r2.1 0 r5).bind fun s1 =>
      (page_Read F s1).bind fun r6 =>
      (scat r2.1 (ByteArray.mk #[0])).bind fun s2 =>
      (page_Read F s2).bind fun r7 =>
      (
        bif (r4.2 == 0) then
            (annalref_SameNode F r4.1 p0).bind fun r8 =>
            bif r8 then
              bif (r6.2 == 7) then
                bif (r7.2 == 3) then
                  some (decide ((r2.1.size : Int) ≤ 2900))
                else
                  some false
              else
                some false
            else
              some false
          else
            some false : Option (Bool)).bind fun z2 =>
      some z2

end Go.Proofs.Ytldlakjemifdmaa
