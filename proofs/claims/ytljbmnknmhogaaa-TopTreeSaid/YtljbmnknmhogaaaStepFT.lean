/- Pure functions of group Step. Conditions: none. -/
import Derived.Test.YtljbmnknmhogaaaPastCFT
import Derived.Test.YtljbmnknmhogaaaPruneFT
import Derived.Test.YtljbmnknmhogaaaCpFT
import Derived.Test.YtljbmnknmhogaaaFrFT
import Derived.Test.YtljbmnknmhogaaaTreeOT
import Derived.Test.YtljbmnknmhogaaaRangeT
import Derived.Test.YtljbmnknmhogaaaMapT
namespace Go.Proofs.Ytljbmnknmhogaaa
set_option linter.unusedVariables false
def mY (F:Nat) (p0:DTree) (p1:(List Int)) (p2:Int) : Option (DTree × Int × Int) :=
 (kX F p0).bind fun r1 =>
 bif (r1 != 0) then
  some ((DTree.mk 0 []),0,r1)
 else
  (lV F p1).bind fun r2 =>
  bif (r2 != 0) then
   some ((DTree.mk 0 []),0,r2)
  else
   bif decide (p2 < 0) then
    some ((DTree.mk 0 []),0,1)
   else
    (
     (
      (nN (σ:=(List DSpot) × Int) (ρ:=(List DSpot) × Nat) (fun rf2 x=>match x with
       | (x1,x2) =>
        (idx p0.nodes x2).bind fun e1 =>
         (iter (σ:=(List DSpot) × Int) (ρ:=((List DSpot)) ⊕ ((List DSpot) × Nat)) (fun x=>match x with
          | (x3,x4) =>
           bif decide (x4 < (e1.elems.length:Int)) then
            (idx e1.elems x4).bind fun e2 =>
            (
             (
              bif ((x3.length:Int) == p2) then
               some (x3,(0 + 1))
               else
                (lU F e2 p1).bind fun r4 =>
                bif (!r4) then
                 (ji e2).bind fun r5 =>
                 (kI 32 x3 [r5]).bind fun _ =>
                 some ((x3 ++ [r5]),0)
                else
                 some (x3,0) : Option ((List DSpot) × Nat)).bind fun z=>match z with
              | (z6,k4) =>
               jJ k4 (
                some (z6,0))
                fun k5 =>
                some (z6,(k5 + 1)) : Option ((List DSpot) × Nat)).bind fun z=>match z with
             | (z5,k3) =>
              jJ k3 (
               some (.inl (z5,IntKind.i64.wrap (x4 + 1))))
               fun k6 =>
               some (.inr (.inr (z5,(k6 + 1))))
            else
             some (.inr (.inl x3))) F (x1,0)).bind fun z=>match z with
          | .inl z4 =>
           (iter (σ:=(List DSpot) × Int) (ρ:=((List DSpot)) ⊕ ((List DSpot) × Nat)) (fun x=>match x with
            | (x5,x6) =>
             bif decide (x6 < (e1.kids.length:Int)) then
              (idx e1.kids x6).bind fun e3 =>
              (
               (rf2 (x5,e3)).bind fun z=>match z with
                | (z9,z10) =>
                 jJ z10 (
                  some (z9,0))
                  fun k8 =>
                  some (z9,(k8 + 1)) : Option ((List DSpot) × Nat)).bind fun z=>match z with
               | (z8,k7) =>
                jJ k7 (
                 some (.inl (z8,IntKind.i64.wrap (x6 + 1))))
                 fun k9 =>
                 some (.inr (.inr (z8,(k9 + 1))))
              else
               some (.inr (.inl x5))) F (z4,0)).bind fun z=>match z with
            | .inl z7 =>
             some (z7,0)
            | .inr q=>some q
          | .inr q=>some q) F ([],p0.root)).bind fun z=>match z with
       | (z11,z12) =>
        jJ z12 (
         some (z11,0))
         fun k10 =>
         some (z11,(k10 + 1)) : Option ((List DSpot) × Nat)).bind fun z=>match z with
      | (z2,k1) =>
       jJ k1 (
        some z2)
        fun k11 =>
        some z2:Option ((List DSpot))).bind fun z1 =>
    (lD F p0).bind fun r6 =>
    (iter (σ:=Int × (List (Int ⊕ DNode)) × Int) (ρ:=Int × (List (Int ⊕ DNode))) (fun x=>match x with
     | (x7,x8,x9) =>
      bif decide (x9 < (z1.length:Int)) then
       (idx z1 x9).bind fun e4 =>
       (lc F x7 x8 e4).bind fun r8 =>
       some (.inl (r8.2,r8.1,IntKind.i64.wrap (x9 + 1)))
       else
        some (.inr (x7,x8))) F (r6.root,(r6.nodes.map Sum.inr),0)).bind fun z=>match z with
     | (z13,z14) =>
      (oH z14).bind fun l2 =>
      some ((DTree.mk z13 l2),(z1.length:Int),0)
end Go.Proofs.Ytljbmnknmhogaaa
