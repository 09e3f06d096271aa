/- Pure functions, written by walkgen.py out of the Go functions of group FindN. Their conditions: none. -/
import Derived.Test.YtcmkdoahkncakaaTreeFQ
import Derived.Test.YtcmkdoahkncakaaRecQ
import Derived.Test.YtcmkdoahkncakaaMapQ
namespace Go.Proofs.Ytcmkdoahkncakaa
set_option linter.unusedVariables false
def find_Since (F : Nat) (p0 : DTree) (p1 : Int) : Option (((List DElem)) × Int × Int) :=
 (tree_Check F p0).bind fun r1 =>
 bif (r1 != 0) then
  some ([], 0, r1)
 else
  (
   (idx p0.nodes p0.root).bind fun e1 =>
    (node_Greatest F e1).bind fun r2 =>
    bif decide (p1 < r2) then
     (fixD (σ := (List DElem) × Int × Int) (ρ := (List DElem) × Int) (fun rf2 x => match x with
      | (x1, x2, x3) =>
       (idx p0.nodes x3).bind fun e2 =>
        (iter (σ := (List DElem) × Int) (ρ := (List DElem)) (fun x => match x with
         | (x4, x5) =>
          bif decide (x5 < (e2.elems.length : Int)) then
           (
            (idx e2.elems x5).bind fun e3 =>
             (elem_Last e3).bind fun r4 =>
             bif decide (p1 < r4) then
              (grow 56 x4 [e3]).bind fun y2 =>
              some (x4 ++ [e3])
             else
              some x4 : Option ((List DElem))).bind fun z6 =>
           some (.inl (z6, IntKind.i64.wrap (x5 + 1)))
           else
            some (.inr x4)) F (x1, 0)).bind fun z5 =>
        (iter (σ := (List DElem) × Int × Int) (ρ := (List DElem) × Int) (fun x => match x with
         | (x6, x7, x8) =>
          bif decide (x8 < (e2.kids.length : Int)) then
           (
            (idx e2.kids x8).bind fun e4 =>
             (idx e2.tids x8).bind fun e5 =>
             bif decide (p1 < e5) then
              (rf2 (x6, x7, e4)).bind fun z => match z with
               | (z11, z12) =>
                some (z11, z12)
             else
              some (x6, x7) : Option ((List DElem) × Int)).bind fun z => match z with
            | (z9, z10) =>
             some (.inl (z9, z10, IntKind.i64.wrap (x8 + 1)))
           else
            some (.inr (x6, x7))) F (z5, IntKind.i64.wrap (x2 + 1), 0)).bind fun z => match z with
         | (z7, z8) =>
          some (z7, z8)) F ([], 0, p0.root)).bind fun z => match z with
      | (z13, z14) =>
       some (z13, z14)
    else
     some ([], 0) : Option ((List DElem) × Int)).bind fun z => match z with
   | (z1, z2) =>
    some (z1, z2, 0)
end Go.Proofs.Ytcmkdoahkncakaa
