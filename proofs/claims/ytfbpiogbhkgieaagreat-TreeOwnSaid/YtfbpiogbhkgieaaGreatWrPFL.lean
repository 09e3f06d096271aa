/- Pure functions of group WrP. Conditions: none. -/
import Derived.Test.YtfbpiogbhkgieaaGreatWrHFL
import Derived.Test.YtfbpiogbhkgieaaGreatFrFL
import Derived.Test.YtfbpiogbhkgieaaGreatTreeOL
import Derived.Test.YtfbpiogbhkgieaaGreatRecL
namespace Go.Proofs.YtfbpiogbhkgieaaGreat
set_option linter.unusedVariables false
def oa (F:Nat) (p0:DTree) (p1:DKey) (p2:ByteArray) (p3:Int) : Option (DTree × Int) :=
 (lH F p0).bind fun r1 =>
 bif (r1 != 0) then
  some ((DTree.mk 0 []),r1)
 else
  (kz (DElem.mk p1 p3 0 p2)).bind fun r3 =>
  bif (r3 != 0) then
   some ((DTree.mk 0 []),r3)
  else
   (mt F p0 p3).bind fun r5 =>
   bif r5 then
    some ((DTree.mk 0 []),9)
   else
    (mU F p0 p1).bind fun r7 =>
    (kG F p0).bind fun r8 =>
    bif (r7.2 && (r7.1.made == p3)) then
     (jC F r8.root (r8.nodes.map Sum.inr) r8.root (DElem.mk p1 p3 0 p2)).bind fun r10 =>
     (mW r10).bind fun l1 =>
     some ((DTree.mk r8.root l1),0)
    else
     (nu F p0).bind fun r11 =>
     bif r11 then
      some ((DTree.mk 0 []),8)
     else
      (
       bif r7.2 then
        (jC F r8.root (r8.nodes.map Sum.inr) r8.root (DElem.mk r7.1.key r7.1.made p3 r7.1.val)).bind fun r13 =>
        some r13
        else
         some (r8.nodes.map Sum.inr) : Option ((List (Int ⊕ DNode)))).bind fun z1 =>
      (km F r8.root z1 (DElem.mk p1 p3 0 p2)).bind fun r14 =>
      (mW r14.2).bind fun l2 =>
      some ((DTree.mk r14.1 l2),0)
end Go.Proofs.YtfbpiogbhkgieaaGreat
