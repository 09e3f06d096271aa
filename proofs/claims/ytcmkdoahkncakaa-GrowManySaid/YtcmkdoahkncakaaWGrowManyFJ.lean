/- Pure functions, written by walkgen.py out of the Go functions of group WGrowMany. Their conditions: none. -/
import Derived.Test.YtcmkdoahkncakaaGrowIFJ
import Derived.Test.YtcmkdoahkncakaaPackFJ
import Derived.Test.YtcmkdoahkncakaaRunFJ
import Derived.Test.YtcmkdoahkncakaaTreeFJ
import Derived.Test.YtcmkdoahkncakaaEqsFJ
import Derived.Test.YtcmkdoahkncakaaClearJ
import Derived.Test.YtcmkdoahkncakaaMapJ
namespace Go.Proofs.Ytcmkdoahkncakaa
set_option linter.unusedVariables false
def annalkeep_GrowMany (F : Nat) (p0 : (List DElem)) (p1 : (List Int)) : Option (Bool) :=
 (annalkeep_begun F).bind fun r1 =>
 bif (!r1) then
  some false
 else
  (lslice p0 0 (if (40 : Int) < (p0.length : Int) then 40 else (p0.length : Int))).bind fun s1 =>
  (run_Check F s1).bind fun r2 =>
  bif (r2 != 0) then
   some true
  else
   (tree_New).bind fun r3 =>
   (grow 56 ([] : List DElem) s1).bind fun _ =>
   (iter (σ := Int × (List DNode) × (List DElem) × Int) (ρ := (Int × (List DNode)) ⊕ Bool) (fun x => match x with
    | (x1, x2, x3, x4) =>
     bif decide ((0 : Int) < (x3.length : Int)) then
      (
       bif decide (x4 < (p1.length : Int)) then
        (idx p1 x4).bind fun e1 =>
        (annalkeep_Within e1 (x3.length : Int)).bind fun r5 =>
        some r5
        else
         some 0 : Option (Int)).bind fun z3 =>
      (idx x3 z3).bind fun e2 =>
      (grow_Insert F (DTree.mk x1 x2) e2).bind fun r6 =>
      bif (r6.2 != 0) then
       some (.inr (.inr false))
      else
       (lslice x3 0 z3).bind fun s3 =>
       (lslice x3 (IntKind.i64.wrap (z3 + 1)) (x3.length : Int)).bind fun s4 =>
       (
        bif decide ((IntKind.i64.wrap (0 + (s3.length : Int))) < 0) then
         none
         else
          bif decide ((IntKind.i64.wrap ((IntKind.i64.wrap (0 + (s3.length : Int))) + (s4.length : Int))) < 0) then
           none
          else
           (
            (
             bif decide ((0 : Int) < (IntKind.i64.wrap ((IntKind.i64.wrap ((IntKind.i64.wrap (0 + (s3.length : Int))) + (s4.length : Int))) - 0))) then
              (noughts 56 (IntKind.i64.wrap ((IntKind.i64.wrap ((IntKind.i64.wrap (0 + (s3.length : Int))) + (s4.length : Int))) - 0))).bind fun u3 =>
              (lslice (List.replicate ((IntKind.i64.wrap ((IntKind.i64.wrap ((IntKind.i64.wrap (0 + (s3.length : Int))) + (s4.length : Int))) - 0)).toNat) ((DElem.mk (DKey.mk 0 0 0) 0 0 (ByteArray.mk #[])) : DElem)) 0 0).bind fun s5 =>
              some s5
              else
               some [] : Option ((List DElem))).bind fun z6 =>
             some z6 : Option ((List DElem))).bind fun z5 =>
           (grow 56 z5 s3).bind fun _ =>
           (grow 56 (z5 ++ s3) s4).bind fun _ =>
           some ((z5 ++ s3) ++ s4) : Option ((List DElem))).bind fun z4 =>
       some (.inl (r6.1.root, r6.1.nodes, z4, IntKind.i64.wrap (x4 + 1)))
      else
       some (.inr (.inl (x1, x2)))) F (r3.root, r3.nodes, s1, 0)).bind fun z => match z with
    | .inl (z1, z2) =>
     (tree_All F (DTree.mk z1 z2)).bind fun r9 =>
     (tree_Depth F (DTree.mk z1 z2)).bind fun r10 =>
     (
      bif (r9.2 == 0) then
       bif (r10.2 == 0) then
        (slices_Equal_Elem F r9.1 s1).bind fun r11 =>
        bif r11 then
         bif decide ((7 : Int) < (s1.length : Int)) then
          bif decide ((31 : Int) < (s1.length : Int)) then
           some true
          else
           some (decide (r10.1 ≤ 2))
         else
          bif (r10.1 == 1) then
           bif decide ((31 : Int) < (s1.length : Int)) then
            some true
           else
            some (decide (r10.1 ≤ 2))
          else
           some false
        else
         some false
       else
        some false
       else
        some false : Option (Bool)).bind fun z7 =>
     some z7
    | .inr q => some q
end Go.Proofs.Ytcmkdoahkncakaa
