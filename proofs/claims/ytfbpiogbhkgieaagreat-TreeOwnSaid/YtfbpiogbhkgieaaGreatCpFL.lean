/- Pure functions of group Cp. Conditions: none. -/
import Derived.Test.YtfbpiogbhkgieaaGreatKeyFL
import Derived.Test.YtfbpiogbhkgieaaGreatTreeOL
import Derived.Test.YtfbpiogbhkgieaaGreatRecL
namespace Go.Proofs.YtfbpiogbhkgieaaGreat
set_option linter.unusedVariables false
def nU (p0:DNode) : Option (DNode) :=
 (lf 56 ([] : List DElem) p0.elems).bind fun _ =>
 (lf 8 ([] : List Int) p0.kids).bind fun _ =>
 (lf 32 ([] : List DSpot) p0.seps).bind fun _ =>
 (lf 8 ([] : List Int) p0.tids).bind fun _ =>
 some (DNode.mk p0.kind (([] : List DElem) ++ p0.elems) (([] : List Int) ++ p0.kids) (([] : List DSpot) ++ p0.seps) (([] : List Int) ++ p0.tids))
def kG (F:Nat) (p0:DTree) : Option (DTree) :=
 (iter (σ:=(List (Int ⊕ DNode)) × Int) (ρ:=(List (Int ⊕ DNode))) (fun x=>match x with
  | (x1,x2) =>
   bif decide (x2 < (p0.nodes.length:Int)) then
    (idx p0.nodes x2).bind fun e1 =>
    (nU e1).bind fun r2 =>
    (pG 104 (x1.length + 1)).bind fun u1 =>
    some (.inl ((x1 ++ [(Sum.inr r2:Int ⊕ DNode)]),IntKind.i64.wrap (x2 + 1)))
    else
     some (.inr x1)) F ([],0)).bind fun z1 =>
 (mW z1).bind fun l1 =>
 some (DTree.mk p0.root l1)
end Go.Proofs.YtfbpiogbhkgieaaGreat
