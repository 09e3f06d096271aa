/- Pure functions, written by walkgen.py out of the Go functions of group WShrinkAll. Their conditions: none. -/
import Derived.Test.YtcmkdoahkncakaaShrFK
import Derived.Test.YtcmkdoahkncakaaPackFK
import Derived.Test.YtcmkdoahkncakaaTreeFK
import Derived.Test.YtcmkdoahkncakaaEqsFK
import Derived.Test.YtcmkdoahkncakaaClearK
import Derived.Test.YtcmkdoahkncakaaMapK
namespace Go.Proofs.Ytcmkdoahkncakaa
set_option linter.unusedVariables false
def annalkeep_ShrinkAll (F : Nat) (p0 : DTree) (p1 : (List Int)) : Option (Bool) :=
 (annalkeep_begun F).bind fun r1 =>
 bif (!r1) then
  some false
 else
  (tree_All F p0).bind fun r2 =>
  bif ((r2.2 != 0) || (decide ((40 : Int) < (r2.1.length : Int)))) then
   some true
  else
   (iter (σ := Int × (List DNode) × (List DElem) × Int) (ρ := (Int × (List DNode)) ⊕ Bool) (fun x => match x with
    | (x1, x2, x3, x4) =>
     bif decide ((0 : Int) < (x3.length : Int)) then
      (
       bif decide (x4 < (p1.length : Int)) then
        (idx p1 x4).bind fun e1 =>
        (annalkeep_Within e1 (x3.length : Int)).bind fun r3 =>
        some r3
        else
         some 0 : Option (Int)).bind fun z3 =>
      (idx x3 z3).bind fun e2 =>
      (elem_Spot e2).bind fun r4 =>
      (shrink_Remove F (DTree.mk x1 x2) r4).bind fun r5 =>
      bif (r5.2 != 0) then
       some (.inr (.inr false))
      else
       (lslice x3 0 z3).bind fun s2 =>
       (lslice x3 (IntKind.i64.wrap (z3 + 1)) (x3.length : Int)).bind fun s3 =>
       (
        bif decide ((IntKind.i64.wrap (0 + (s2.length : Int))) < 0) then
         none
         else
          bif decide ((IntKind.i64.wrap ((IntKind.i64.wrap (0 + (s2.length : Int))) + (s3.length : Int))) < 0) then
           none
          else
           (
            (
             bif decide ((0 : Int) < (IntKind.i64.wrap ((IntKind.i64.wrap ((IntKind.i64.wrap (0 + (s2.length : Int))) + (s3.length : Int))) - 0))) then
              (noughts 56 (IntKind.i64.wrap ((IntKind.i64.wrap ((IntKind.i64.wrap (0 + (s2.length : Int))) + (s3.length : Int))) - 0))).bind fun u5 =>
              (lslice (List.replicate ((IntKind.i64.wrap ((IntKind.i64.wrap ((IntKind.i64.wrap (0 + (s2.length : Int))) + (s3.length : Int))) - 0)).toNat) ((DElem.mk (DKey.mk 0 0 0) 0 0 (ByteArray.mk #[])) : DElem)) 0 0).bind fun s4 =>
              some s4
              else
               some [] : Option ((List DElem))).bind fun z6 =>
             some z6 : Option ((List DElem))).bind fun z5 =>
           (grow 56 z5 s2).bind fun _ =>
           (grow 56 (z5 ++ s2) s3).bind fun _ =>
           some ((z5 ++ s2) ++ s3) : Option ((List DElem))).bind fun z4 =>
       (tree_All F r5.1).bind fun r8 =>
       (
        bif (r8.2 != 0) then
         some true
         else
          (slices_Equal_Elem F r8.1 z4).bind fun r9 =>
          some (!r9) : Option (Bool)).bind fun z7 =>
       bif z7 then
        some (.inr (.inr false))
       else
        some (.inl (r5.1.root, r5.1.nodes, z4, IntKind.i64.wrap (x4 + 1)))
      else
       some (.inr (.inl (x1, x2)))) F (p0.root, p0.nodes, r2.1, 0)).bind fun z => match z with
    | .inl (z1, z2) =>
     (tree_Depth F (DTree.mk z1 z2)).bind fun r10 =>
     some ((r10.1 == 1) && (r10.2 == 0))
    | .inr q => some q
end Go.Proofs.Ytcmkdoahkncakaa
