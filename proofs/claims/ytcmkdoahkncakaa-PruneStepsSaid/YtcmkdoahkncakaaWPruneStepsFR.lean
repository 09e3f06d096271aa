/- Pure functions, written by walkgen.py out of the Go functions of group WPruneSteps. Their conditions: none. -/
import Derived.Test.YtcmkdoahkncakaaStepFR
import Derived.Test.YtcmkdoahkncakaaBuildFR
import Derived.Test.YtcmkdoahkncakaaTreeFR
import Derived.Test.YtcmkdoahkncakaaEqsFR
import Derived.Test.YtcmkdoahkncakaaMapR
namespace Go.Proofs.Ytcmkdoahkncakaa
set_option linter.unusedVariables false
def annalkeep_PruneSteps (F : Nat) (p0 : DTree) (p1 : (List Int)) (p2 : Int) : Option (Bool) :=
 (annalkeep_of F [(DElem.mk (DKey.mk 0 0 1) 1 3 (ByteArray.mk #[]))]).bind fun r1 =>
 (prune_Step F r1 ([] : List Int) 5).bind fun r2 =>
 bif ((r2.2.1 != 1) || (r2.2.2 != 0)) then
  some false
 else
  (tree_All F p0).bind fun r3 =>
  bif (r3.2 != 0) then
   some true
  else
   (prune_Kept F r3.1 p1).bind fun r4 =>
   bif (r4.2 != 0) then
    some true
   else
    (annalkeep_Within p2 9).bind fun r5 =>
    (iter (σ := Int × (List DNode) × Int) (ρ := (Int × (List DNode)) ⊕ Bool) (fun x => match x with
     | (x1, x2, x3) =>
      bif decide (x3 < (IntKind.i64.wrap ((r3.1.length : Int) + 1))) then
       (prune_Step F (DTree.mk x1 x2) p1 (IntKind.i64.wrap (1 + r5))).bind fun r6 =>
       bif ((r6.2.2 != 0) || (decide ((IntKind.i64.wrap (1 + r5)) < r6.2.1))) then
        some (.inr (.inr false))
       else
        bif decide (r6.2.1 < (IntKind.i64.wrap (1 + r5))) then
         some (.inr (.inl (r6.1.root, r6.1.nodes)))
        else
         some (.inl (r6.1.root, r6.1.nodes, IntKind.i64.wrap (x3 + 1)))
       else
        some (.inr (.inl (x1, x2)))) F (p0.root, p0.nodes, 0)).bind fun z => match z with
     | .inl (z1, z2) =>
      (tree_All F (DTree.mk z1 z2)).bind fun r7 =>
      (
       bif (r7.2 == 0) then
        (slices_Equal_Elem F r7.1 r4.1).bind fun r8 =>
        some r8
        else
         some false : Option (Bool)).bind fun z3 =>
      some z3
     | .inr q => some q
end Go.Proofs.Ytcmkdoahkncakaa
