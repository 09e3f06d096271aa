/- Pure functions of group WTopTree. Conditions: none. -/
import Derived.Test.YtljbmnknmhogaaaWrPFT
import Derived.Test.YtljbmnknmhogaaaWrCFT
import Derived.Test.YtljbmnknmhogaaaStepFT
import Derived.Test.YtljbmnknmhogaaaPackFT
import Derived.Test.YtljbmnknmhogaaaPastAFT
import Derived.Test.YtljbmnknmhogaaaEqsFT
import Derived.Test.YtljbmnknmhogaaaMapT
namespace Go.Proofs.Ytljbmnknmhogaaa
set_option linter.unusedVariables false
def lI (F:Nat) : Option (Bool) :=
 (nW F ([] : List DElem) (DKey.mk 0 0 0) (ByteArray.mk #[97]) 1).bind fun r1 =>
 (
  bif (r1.2 == 0) then
   bif ((r1.1.length:Int) == 1) then
    (idx r1.1 0).bind fun e1 =>
    some (seq e1.val (ByteArray.mk #[97]))
   else
    some false
   else
    some false:Option (Bool)).bind fun z1 =>
 some z1
def ll (p0:(List Int)) (p1:Int) : Option (Int) :=
 bif decide (p1 < (p0.length:Int)) then
  (idx p0 p1).bind fun e1 =>
  some e1
 else
  some 0
def ma (F:Nat) (p0:(List (List Int))) (p1:(List DKey)) (p2:(List ByteArray)) : Option (Bool) :=
 (oF).bind fun r1 =>
 (lI F).bind fun r2 =>
 bif (!r2) then
  some false
 else
  (iter (σ:=Int × (List DNode) × (List DElem) × Int) (ρ:=(Int × (List DNode) × (List DElem)) ⊕ Bool) (fun x=>match x with
   | (x1,x2,x3,x4) =>
    bif decide (x4 < (p0.length:Int)) then
     (
      (idx p0 x4).bind fun e1 =>
       (
        bif decide (x4 < (p1.length:Int)) then
         (idx p1 x4).bind fun e2 =>
         some (e2.pfs,e2.obj,e2.off)
         else
          some (0,0,0) : Option (Int × Int × Int)).bind fun z=>match z with
        | (z7,z8,z9) =>
         (
          bif decide (x4 < (p2.length:Int)) then
           (idx p2 x4).bind fun e3 =>
           some e3
           else
            some (ByteArray.mk #[]) : Option (ByteArray)).bind fun z10 =>
         (ll e1 1).bind fun r3 =>
         (
          (ll e1 0).bind fun r4 =>
           (kg r4 3).bind fun r5 =>
           bif (r5 == 0) then
            (nE F (DTree.mk x1 x2) (DKey.mk z7 z8 z9) z10 r3).bind fun r6 =>
            (nW F x3 (DKey.mk z7 z8 z9) z10 r3).bind fun r7 =>
            some (r6.1.root,r6.1.nodes,r7.1,r6.2,r7.2)
           else
            bif (r5 == 1) then
             (nD F (DTree.mk x1 x2) (DKey.mk z7 z8 z9) r3).bind fun r8 =>
             (pa F x3 (DKey.mk z7 z8 z9) r3).bind fun r9 =>
             some (r8.1.root,r8.1.nodes,r9.1,r8.2,r9.2)
            else
             (kg r3 100).bind fun r10 =>
             (mY F (DTree.mk x1 x2) [r10] 400).bind fun r11 =>
             (kg r3 100).bind fun r12 =>
             (mX F x3 [r12]).bind fun r13 =>
             some (r11.1.root,r11.1.nodes,r13.1,r11.2.2,r13.2) : Option (Int × (List DNode) × (List DElem) × Int × Int)).bind fun z=>match z with
          | (z11,z12,z13,z14,z15) =>
           bif (z14 != z15) then
            some (.inr (.inr (.inr false)))
           else
            bif (z14 != 0) then
             some (.inl (x1,x2,x3))
            else
             (oY F (DTree.mk z11 z12) (DKey.mk z7 z8 z9) r3).bind fun r14 =>
             (pQ F z13 (DKey.mk z7 z8 z9) r3).bind fun r15 =>
             (mj F (DTree.mk z11 z12)).bind fun r16 =>
             (
              bif (r16.2 != 0) then
               some true
               else
                (kz F r16.1 z13).bind fun r17 =>
                bif (!r17) then
                 some true
                else
                 bif (!(r14.1 == r15.1)) then
                  some true
                 else
                  some (r14.2 != r15.2) : Option (Bool)).bind fun z16 =>
             bif z16 then
              some (.inr (.inr (.inr false)))
             else
              some (.inl (z11,z12,z13)) : Option ((Int × (List DNode) × (List DElem)) ⊕ ((Int × (List DNode) × (List DElem) × Int) ⊕ ((Int × (List DNode) × (List DElem)) ⊕ Bool)))).bind fun z=>match z with
      | .inl (z4,z5,z6) =>
       some (.inl (z4,z5,z6,IntKind.i64.wrap (x4 + 1)))
      | .inr q=>some q
     else
      some (.inr (.inl (x1,x2,x3)))) F (r1.root,r1.nodes,[],0)).bind fun z=>match z with
   | .inl (z1,z2,z3) =>
    (mT F (DTree.mk z1 z2)).bind fun r18 =>
    (mj F r18.1).bind fun r19 =>
    (
     bif (r18.2 == 0) then
      bif (r19.2 == 0) then
       (kz F r19.1 z3).bind fun r20 =>
       some r20
      else
       some false
      else
       some false:Option (Bool)).bind fun z17 =>
    some z17
   | .inr q=>some q
end Go.Proofs.Ytljbmnknmhogaaa
