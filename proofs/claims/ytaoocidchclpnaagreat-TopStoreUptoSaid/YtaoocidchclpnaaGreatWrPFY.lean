/- Pure functions of group WrP. Conditions: none. -/
import Derived.Test.YtaoocidchclpnaaGreatWrHFY
import Derived.Test.YtaoocidchclpnaaGreatFrFY
import Derived.Test.YtaoocidchclpnaaGreatTreeOY
import Derived.Test.YtaoocidchclpnaaGreatMapY
namespace Go.Proofs.YtaoocidchclpnaaGreat
set_option linter.unusedVariables false
def oV (F:Nat) (p0:DTree) (p1:DKey) (p2:ByteArray) (p3:Int) : Option (DTree × Int) :=
 (lr F p0).bind fun r1 =>
 bif (r1 != 0) then
  some ((DTree.mk 0 []),r1)
 else
  (j7 (DElem.mk p1 p3 0 p2)).bind fun r2 =>
  bif (r2 != 0) then
   some ((DTree.mk 0 []),r2)
  else
   (mU F p0 p3).bind fun r3 =>
   bif r3 then
    some ((DTree.mk 0 []),9)
   else
    (nL F p0 p1).bind fun r4 =>
    (mI F p0).bind fun r5 =>
    bif (r4.2 && (r4.1.made == p3)) then
     (jL F r5.root (r5.nodes.map Sum.inr) r5.root (DElem.mk p1 p3 0 p2)).bind fun r7 =>
     (qt r7).bind fun l1 =>
     some ((DTree.mk r5.root l1),0)
    else
     (oh F p0).bind fun r8 =>
     bif r8 then
      some ((DTree.mk 0 []),8)
     else
      (
       bif r4.2 then
        (jL F r5.root (r5.nodes.map Sum.inr) r5.root (DElem.mk r4.1.key r4.1.made p3 r4.1.val)).bind fun r9 =>
        some r9
        else
         some (r5.nodes.map Sum.inr) : Option ((List (Int ⊕ DNode)))).bind fun z1 =>
      (kT F r5.root z1 (DElem.mk p1 p3 0 p2)).bind fun r10 =>
      (qt r10.2).bind fun l2 =>
      some ((DTree.mk r10.1 l2),0)
end Go.Proofs.YtaoocidchclpnaaGreat
