/- Pure functions of group WrC. Conditions: none. -/
import Derived.Test.YtfbpiogbhkgieaaGreatWrHFL
import Derived.Test.YtfbpiogbhkgieaaGreatFrFL
import Derived.Test.YtfbpiogbhkgieaaGreatTreeOL
import Derived.Test.YtfbpiogbhkgieaaGreatRecL
namespace Go.Proofs.YtfbpiogbhkgieaaGreat
set_option linter.unusedVariables false
def nZ (F:Nat) (p0:DTree) (p1:DKey) (p2:Int) : Option (DTree × Int) :=
 (lH F p0).bind fun r1 =>
 bif (r1 != 0) then
  some ((DTree.mk 0 []),r1)
 else
  (mS p1).bind fun r3 =>
  bif (r3 != 0) then
   some ((DTree.mk 0 []),r3)
  else
   (mt F p0 p2).bind fun r5 =>
   bif r5 then
    some ((DTree.mk 0 []),9)
   else
    (mU F p0 p1).bind fun r7 =>
    bif (!r7.2) then
     some ((DTree.mk 0 []),4)
    else
     bif (r7.1.made == p2) then
      (kG F p0).bind fun r9 =>
      (jb r7.1).bind fun r11 =>
      (kM F r9.root (r9.nodes.map Sum.inr) r11).bind fun r12 =>
      (mW r12.1).bind fun l1 =>
      some ((DTree.mk r12.2 l1),0)
     else
      (kG F p0).bind fun r13 =>
      (jC F r13.root (r13.nodes.map Sum.inr) r13.root (DElem.mk r7.1.key r7.1.made p2 r7.1.val)).bind fun r15 =>
      (mW r15).bind fun l2 =>
      some ((DTree.mk r13.root l2),0)
end Go.Proofs.YtfbpiogbhkgieaaGreat
