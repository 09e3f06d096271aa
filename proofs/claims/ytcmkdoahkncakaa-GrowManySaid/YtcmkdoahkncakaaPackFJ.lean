/- Pure functions, written by walkgen.py out of the Go functions of group Pack. Their conditions: none. -/
import Derived.Test.YtcmkdoahkncakaaBuildFJ
import Derived.Test.YtcmkdoahkncakaaTreeFJ
import Derived.Test.YtcmkdoahkncakaaEqsFJ
import Derived.Test.YtcmkdoahkncakaaMapJ
namespace Go.Proofs.Ytcmkdoahkncakaa
set_option linter.unusedVariables false
def annalref_SameNode (F : Nat) (p0 : DNode) (p1 : DNode) : Option (Bool) :=
 (
  bif (p0.kind == p1.kind) then
   (slices_Equal_Elem F p0.elems p1.elems).bind fun r1 =>
   bif r1 then
    (slices_Equal_int F p0.kids p1.kids).bind fun r2 =>
    bif r2 then
     (slices_Equal_Spot F p0.seps p1.seps).bind fun r3 =>
     bif r3 then
      (slices_Equal_int F p0.tids p1.tids).bind fun r4 =>
      some r4
     else
      some false
    else
     some false
   else
    some false
   else
    some false : Option (Bool)).bind fun z1 =>
 some z1
def annalref_SameTree (F : Nat) (p0 : DTree) (p1 : DTree) : Option (Bool) :=
 (
  bif (p0.root == p1.root) then
   (
    bif ((p0.nodes.length : Int) != (p1.nodes.length : Int)) then
     some false
     else
      (iter (σ := Int) (ρ := (Unit) ⊕ Bool) (fun x1 =>
       bif decide (x1 < (p0.nodes.length : Int)) then
        (idx p0.nodes x1).bind fun e1 =>
        (idx p1.nodes x1).bind fun e2 =>
        (annalref_SameNode F e1 e2).bind fun r1 =>
        bif (!r1) then
         some (.inr (.inr false))
        else
         some (.inl (IntKind.i64.wrap (x1 + 1)))
        else
         some (.inr (.inl ()))) F 0).bind fun z => match z with
       | .inl _ =>
        some true
       | .inr q => some q : Option (Bool)).bind fun z2 =>
   some z2
   else
    some false : Option (Bool)).bind fun z1 =>
 some z1
def annalkeep_begun (F : Nat) : Option (Bool) :=
 (annalkeep_at1 1 (ByteArray.mk #[97])).bind fun r1 =>
 (annalkeep_of F [r1]).bind fun r2 =>
 (tree_All F r2).bind fun r3 =>
 (
  bif (r3.2 == 0) then
   (annalkeep_at1 1 (ByteArray.mk #[97])).bind fun r4 =>
   (slices_Equal_Elem F r3.1 [r4]).bind fun r5 =>
   some r5
   else
    some false : Option (Bool)).bind fun z1 =>
 some z1
end Go.Proofs.Ytcmkdoahkncakaa
