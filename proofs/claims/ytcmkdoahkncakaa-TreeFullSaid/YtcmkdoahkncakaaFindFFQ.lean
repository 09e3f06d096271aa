/- Pure functions, written by walkgen.py out of the Go functions of group FindF. Their conditions: none. -/
import Derived.Test.YtcmkdoahkncakaaTreeFQ
import Derived.Test.YtcmkdoahkncakaaRangeQ
import Derived.Test.YtcmkdoahkncakaaMapQ
namespace Go.Proofs.Ytcmkdoahkncakaa
set_option linter.unusedVariables false
def find_From (F : Nat) (p0 : DTree) (p1 : DSpot) (p2 : Int) : Option (((List DElem)) × Int) :=
 (tree_Check F p0).bind fun r1 =>
 bif (r1 != 0) then
  some ([], r1)
 else
  bif decide (p2 < 0) then
   some ([], 1)
  else
   (
    (
     (fixD (σ := (List DElem) × Int) (ρ := (List DElem) × Nat) (fun rf2 x => match x with
      | (x1, x2) =>
       (idx p0.nodes x2).bind fun e1 =>
        (iter (σ := (List DElem) × Int) (ρ := ((List DElem)) ⊕ ((List DElem) × Nat)) (fun x => match x with
         | (x3, x4) =>
          bif decide (x4 < (e1.elems.length : Int)) then
           (idx e1.elems x4).bind fun e2 =>
           (
            (elem_Spot e2).bind fun r3 =>
             (key_CmpSpot r3 p1).bind fun r4 =>
             bif decide ((0 : Int) ≤ r4) then
              (
               bif ((x3.length : Int) == p2) then
                some (x3, (0 + 1))
                else
                 (grow 56 x3 [e2]).bind fun _ =>
                 some ((x3 ++ [e2]), 0) : Option ((List DElem) × Nat)).bind fun z => match z with
               | (z6, k4) =>
                natCase k4 (
                 some (z6, 0))
                 fun k5 =>
                 some (z6, (k5 + 1))
             else
              some (x3, 0) : Option ((List DElem) × Nat)).bind fun z => match z with
            | (z5, k3) =>
             natCase k3 (
              some (.inl (z5, IntKind.i64.wrap (x4 + 1))))
              fun k6 =>
              some (.inr (.inr (z5, (k6 + 1))))
           else
            some (.inr (.inl x3))) F (x1, 0)).bind fun z => match z with
         | .inl z4 =>
          bif (e1.kind == 1) then
           some (z4, 0)
          else
           (node_Way F e1 p1).bind fun r5 =>
           (lslice e1.kids r5 (e1.kids.length : Int)).bind fun s2 =>
           (iter (σ := (List DElem) × Int) (ρ := ((List DElem)) ⊕ ((List DElem) × Nat)) (fun x => match x with
            | (x5, x6) =>
             bif decide (x6 < (s2.length : Int)) then
              (idx s2 x6).bind fun e3 =>
              (
               (rf2 (x5, e3)).bind fun z => match z with
                | (z9, z10) =>
                 natCase z10 (
                  some (z9, 0))
                  fun k8 =>
                  some (z9, (k8 + 1)) : Option ((List DElem) × Nat)).bind fun z => match z with
               | (z8, k7) =>
                natCase k7 (
                 some (.inl (z8, IntKind.i64.wrap (x6 + 1))))
                 fun k9 =>
                 some (.inr (.inr (z8, (k9 + 1))))
              else
               some (.inr (.inl x5))) F (z4, 0)).bind fun z => match z with
            | .inl z7 =>
             some (z7, 0)
            | .inr q => some q
         | .inr q => some q) F ([], p0.root)).bind fun z => match z with
      | (z11, z12) =>
       natCase z12 (
        some (z11, 0))
        fun k10 =>
        some (z11, (k10 + 1)) : Option ((List DElem) × Nat)).bind fun z => match z with
     | (z2, k1) =>
      natCase k1 (
       some z2)
       fun k11 =>
       some z2 : Option ((List DElem))).bind fun z1 =>
   some (z1, 0)
end Go.Proofs.Ytcmkdoahkncakaa
