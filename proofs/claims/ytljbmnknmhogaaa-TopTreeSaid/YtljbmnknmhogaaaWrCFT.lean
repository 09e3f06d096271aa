/- Pure functions of group WrC. Conditions: none. -/
import Derived.Test.YtljbmnknmhogaaaWrHFT
import Derived.Test.YtljbmnknmhogaaaFrFT
import Derived.Test.YtljbmnknmhogaaaTreeOT
import Derived.Test.YtljbmnknmhogaaaMapT
namespace Go.Proofs.Ytljbmnknmhogaaa
set_option linter.unusedVariables false
def nD (F:Nat) (p0:DTree) (p1:DKey) (p2:Int) : Option (DTree × Int) :=
 (kX F p0).bind fun r1 =>
 bif (r1 != 0) then
  some ((DTree.mk 0 []),r1)
 else
  (kV p1).bind fun r2 =>
  bif (r2 != 0) then
   some ((DTree.mk 0 []),r2)
  else
   (mo F p0 p2).bind fun r3 =>
   bif r3 then
    some ((DTree.mk 0 []),9)
   else
    (mM F p0 p1).bind fun r4 =>
    bif (!r4.2) then
     some ((DTree.mk 0 []),4)
    else
     bif (r4.1.made == p2) then
      (lD F p0).bind fun r5 =>
      (ji r4.1).bind fun r7 =>
      (lc F r5.root (r5.nodes.map Sum.inr) r7).bind fun r8 =>
      (oH r8.1).bind fun l1 =>
      some ((DTree.mk r8.2 l1),0)
     else
      (lD F p0).bind fun r9 =>
      (jK F r9.root (r9.nodes.map Sum.inr) r9.root (DElem.mk r4.1.key r4.1.made p2 r4.1.val)).bind fun r11 =>
      (oH r11).bind fun l2 =>
      some ((DTree.mk r9.root l2),0)
end Go.Proofs.Ytljbmnknmhogaaa
