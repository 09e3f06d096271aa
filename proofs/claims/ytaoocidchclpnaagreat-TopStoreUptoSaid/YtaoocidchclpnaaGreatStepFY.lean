/- Pure functions of group Step. Conditions: none. -/
import Derived.Test.YtaoocidchclpnaaGreatUndoFY
import Derived.Test.YtaoocidchclpnaaGreatMapY
namespace Go.Proofs.YtaoocidchclpnaaGreat
set_option linter.unusedVariables false
def qi (F:Nat) (p0:ByteArray) (p1:(List DWrite)) : Option (Int) :=
 bif ((decide ((2900:Int) < (p0.size:Int))) || (decide ((100:Int) < (p1.length:Int)))) then
  some 2
 else
  (iter (σ:=(List Bool) × Int) (ρ:=(Unit) ⊕ Int) (fun x=>match x with
   | (x1,x2) =>
    bif decide (x2 < (p1.length:Int)) then
     (idx p1 x2).bind fun e1 =>
     bif ((decide (e1.page < 1)) || (decide ((101:Int)≤e1.page))) then
      some (.inr (.inr 1))
     else
      bif decide ((2900:Int) < (e1.text.size:Int)) then
       some (.inr (.inr 2))
      else
       (idx x1 e1.page).bind fun e2 =>
       bif e2 then
        some (.inr (.inr 5))
       else
        (idx x1 e1.page).bind fun e3 =>
        some (.inl ((x1.set e1.page.toNat true),IntKind.i64.wrap (x2 + 1)))
     else
      some (.inr (.inl ()))) F ((List.replicate 201 false),0)).bind fun z=>match z with
   | .inl _ =>
    some 0
   | .inr q=>some q
def og (F:Nat) (p0:DDisk) (p1:ByteArray) (p2:(List DWrite)) : Option (((List DDisk)) × Int) :=
 (mJ F p0).bind fun r1 =>
 bif (r1.2.2 != 0) then
  some ([],r1.2.2)
 else
  (qi F p1 p2).bind fun r2 =>
  bif (r2 != 0) then
   some ([],r2)
  else
   (iter (σ:=Int) (ρ:=(Unit) ⊕ (((List DDisk)) × Int)) (fun x1 =>
    bif decide (x1 < (p2.length:Int)) then
     (idx p2 x1).bind fun e1 =>
     (mz F p0 e1.page).bind fun r3 =>
     bif decide ((2900:Int) < (r3.size:Int)) then
      some (.inr (.inr ([],2)))
     else
      some (.inl (IntKind.i64.wrap (x1 + 1)))
     else
      some (.inr (.inl ()))) F 0).bind fun z=>match z with
    | .inl _ =>
     bif (r1.1 == 2147483647) then
      some ([],8)
     else
      (
       (lO F p0).bind fun r4 =>
        (jT 48 ([] : List DDisk) [r4.1]).bind fun y2 =>
        some ((([] : List DDisk) ++ [r4.1]),r4.1.pages,r4.1.writes) : Option ((List DDisk) × (List ByteArray) × (List DWrite))).bind fun z=>match z with
       | (z1,z2,z3) =>
        (iter (σ:=(List DDisk) × (List ByteArray) × (List DWrite) × Int) (ρ:=(List DDisk) × (List ByteArray) × (List DWrite)) (fun x=>match x with
         | (x2,x3,x4,x5) =>
          bif decide (x5 < (p2.length:Int)) then
           (idx p2 x5).bind fun e2 =>
           (mK F (IntKind.i64.wrap (r1.1 + 1))).bind fun r6 =>
           (mK F e2.page).bind fun r7 =>
           (mv r6 r7).bind fun s2 =>
           (mz F (DDisk.mk x3 x4) e2.page).bind fun r8 =>
           (mv s2 r8).bind fun s3 =>
           (mD F (DFrame.mk 9 s3)).bind fun r9 =>
           (
            (m7 F (DDisk.mk x3 x4) (IntKind.i64.wrap (101 + x5)) r9.1).bind fun r10 =>
             (jT 48 x2 [r10.1]).bind fun y4 =>
             some ((x2 ++ [r10.1]),r10.1.pages,r10.1.writes) : Option ((List DDisk) × (List ByteArray) × (List DWrite))).bind fun z=>match z with
            | (z7,z8,z9) =>
             some (.inl (z7,z8,z9,IntKind.i64.wrap (x5 + 1)))
           else
            some (.inr (x2,x3,x4))) F (z1,z2,z3,0)).bind fun z=>match z with
         | (z4,z5,z6) =>
          (
           (lO F (DDisk.mk z5 z6)).bind fun r11 =>
            (jT 48 z4 [r11.1]).bind fun y5 =>
            some ((z4 ++ [r11.1]),r11.1.pages,r11.1.writes) : Option ((List DDisk) × (List ByteArray) × (List DWrite))).bind fun z=>match z with
           | (z10,z11,z12) =>
            (iter (σ:=(List DDisk) × (List ByteArray) × (List DWrite) × Int) (ρ:=(List DDisk) × (List ByteArray) × (List DWrite)) (fun x=>match x with
             | (x6,x7,x8,x9) =>
              bif decide (x9 < (p2.length:Int)) then
               (idx p2 x9).bind fun e3 =>
               (
                (m7 F (DDisk.mk x7 x8) e3.page e3.text).bind fun r12 =>
                 (jT 48 x6 [r12.1]).bind fun y7 =>
                 some ((x6 ++ [r12.1]),r12.1.pages,r12.1.writes) : Option ((List DDisk) × (List ByteArray) × (List DWrite))).bind fun z=>match z with
                | (z16,z17,z18) =>
                 some (.inl (z16,z17,z18,IntKind.i64.wrap (x9 + 1)))
               else
                some (.inr (x6,x7,x8))) F (z10,z11,z12,0)).bind fun z=>match z with
             | (z13,z14,z15) =>
              (
               (lO F (DDisk.mk z14 z15)).bind fun r13 =>
                (jT 48 z13 [r13.1]).bind fun y8 =>
                some ((z13 ++ [r13.1]),r13.1.pages,r13.1.writes) : Option ((List DDisk) × (List ByteArray) × (List DWrite))).bind fun z=>match z with
               | (z19,z20,z21) =>
                (nK F (IntKind.i64.wrap (r1.1 + 1)) p1).bind fun r14 =>
                (
                 (m7 F (DDisk.mk z20 z21) 0 r14.1).bind fun r15 =>
                  (jT 48 z19 [r15.1]).bind fun y9 =>
                  some ((z19 ++ [r15.1]),r15.1.pages,r15.1.writes) : Option ((List DDisk) × (List ByteArray) × (List DWrite))).bind fun z=>match z with
                 | (z22,z23,z24) =>
                  (
                   (lO F (DDisk.mk z23 z24)).bind fun r16 =>
                    (jT 48 z22 [r16.1]).bind fun y10 =>
                    some ((z22 ++ [r16.1]),r16.1.pages,r16.1.writes) : Option ((List DDisk) × (List ByteArray) × (List DWrite))).bind fun z=>match z with
                   | (z25,z26,z27) =>
                    some (z25,0)
    | .inr q=>some q
end Go.Proofs.YtaoocidchclpnaaGreat
