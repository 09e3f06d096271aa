/- Pure functions, written by walkgen.py out of the Go functions of group WTreeFull. Their conditions: none. -/
import Derived.Test.YtcmkdoahkncakaaGrowIFQ
import Derived.Test.YtcmkdoahkncakaaFindSFQ
import Derived.Test.YtcmkdoahkncakaaFindFFQ
import Derived.Test.YtcmkdoahkncakaaFindNFQ
import Derived.Test.YtcmkdoahkncakaaBuildFQ
import Derived.Test.YtcmkdoahkncakaaTreeFQ
import Derived.Test.YtcmkdoahkncakaaEqsFQ
import Derived.Test.YtcmkdoahkncakaaMapQ
namespace Go.Proofs.Ytcmkdoahkncakaa
set_option linter.unusedVariables false
def annalkeep_full (F : Nat) : Option (((List DElem))) :=
 (iter (σ := (List DElem) × Int) (ρ := (List DElem)) (fun x => match x with
  | (x1, x2) =>
   bif decide (x2 < 400) then
    (annalkeep_at1 x2 (ByteArray.mk #[])).bind fun r2 =>
    (grow 56 x1 [r2]).bind fun _ =>
    some (.inl ((x1 ++ [r2]), IntKind.i64.wrap (x2 + 1)))
    else
     some (.inr x1)) F ([], 0)).bind fun z1 =>
 some z1
def annalkeep_TreeFull (F : Nat) (p0 : Int) : Option (Bool) :=
 (annalkeep_full F).bind fun r1 =>
 (annalkeep_of F r1).bind fun r2 =>
 (tree_All F r2).bind fun r3 =>
 (annalkeep_at1 1000 (ByteArray.mk #[])).bind fun r4 =>
 (grow_Insert F r2 r4).bind fun r5 =>
 (find_Since F r2 0).bind fun r6 =>
 (
  bif (r3.2 != 0) then
   some true
   else
    bif (r5.2 != 8) then
     some true
    else
     bif (r6.2.2 != 0) then
      some true
     else
      (annalkeep_full F).bind fun r7 =>
      (slices_Equal_Elem F r3.1 r7).bind fun r8 =>
      bif (!r8) then
       some true
      else
       bif ((r6.1.length : Int) != 400) then
        some true
       else
        some (r6.2.1 != (r2.nodes.length : Int)) : Option (Bool)).bind fun z1 =>
 bif z1 then
  some false
 else
  (annalkeep_Within p0 400).bind fun r9 =>
  (annalkeep_full F).bind fun r10 =>
  (idx r10 r9).bind fun e1 =>
  (elem_Spot e1).bind fun r11 =>
  (find_Spot F r2 r11).bind fun r12 =>
  (annalkeep_full F).bind fun r13 =>
  (idx r13 r9).bind fun e2 =>
  (elem_Spot e2).bind fun r14 =>
  (find_From F r2 r14 1000).bind fun r15 =>
  (
   bif (r12.2 == 0) then
    (annalkeep_full F).bind fun r16 =>
    (idx r16 r9).bind fun e3 =>
    bif (r12.1 == e3) then
     bif (r15.2 == 0) then
      some ((r15.1.length : Int) == (IntKind.i64.wrap (400 - r9)))
     else
      some false
    else
     some false
    else
     some false : Option (Bool)).bind fun z2 =>
  some z2
end Go.Proofs.Ytcmkdoahkncakaa
