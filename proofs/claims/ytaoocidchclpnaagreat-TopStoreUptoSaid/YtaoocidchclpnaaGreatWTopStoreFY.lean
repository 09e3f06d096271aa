/- Pure functions of group WTopStore. Conditions: none. -/
import Derived.Test.YtaoocidchclpnaaGreatWrPFY
import Derived.Test.YtaoocidchclpnaaGreatWrCLY
import Derived.Test.YtaoocidchclpnaaGreatFrSFY
import Derived.Test.YtaoocidchclpnaaGreatDiskFY
import Derived.Test.YtaoocidchclpnaaGreatMapY
open ByteArray renaming mk→a_
namespace Go.Proofs.YtaoocidchclpnaaGreat
set_option linter.unusedVariables false
def lV (F:Nat) : Option (Bool) :=
 (qC F ([] : List DElem) (DKey.mk 0 0 0) (a_ #[97]) 1).bind fun r1 =>
 (
  bif (r1.2 == 0) then
   bif ((r1.1.length:Int) == 1) then
    (idx r1.1 0).bind fun e1 =>
    some (seq e1.val (a_ #[97]))
   else
    some false
   else
    some false:Option (Bool)).bind fun z1 =>
 some z1
def lc (p0:(List Int)) (p1:Int) : Option (Int) :=
 bif decide (p1 < (p0.length:Int)) then
  (idx p0 p1).bind fun e1 =>
  some e1
 else
  some 0
def mj (F:Nat) (p0:(List (List Int))) (p1:(List DKey)) (p2:(List ByteArray)) (p3:(List Bool)) : Option (Bool) :=
 (mR F).bind fun r1 =>
 (
  (lV F).bind fun r3 =>
   bif (!r3) then
    some true
   else
    some false:Option (Bool)).bind fun z1 =>
 bif z1 then
  some false
 else
  (iter (σ:=(List ByteArray) × (List DWrite) × Int × (List DNode) × Int × Int) (ρ:=(Unit) ⊕ Bool) (fun x=>match x with
   | (x1,x2,x3,x4,x5,x6) =>
    bif decide (x6 < (p0.length:Int)) then
     (
      (idx p0 x6).bind fun e1 =>
       (
        bif decide (x6 < (p1.length:Int)) then
         (idx p1 x6).bind fun e2 =>
         some (e2.pfs,e2.obj,e2.off)
         else
          some (0,0,0) : Option (Int × Int × Int)).bind fun z=>match z with
        | (z7,z8,z9) =>
         (
          bif decide (x6 < (p2.length:Int)) then
           (idx p2 x6).bind fun e3 =>
           some e3
           else
            some (a_ #[]) : Option (ByteArray)).bind fun z10 =>
         (lc e1 1).bind fun r4 =>
         (ke r4 3).bind fun r5 =>
         (lc e1 0).bind fun r6 =>
         (ke r6 3).bind fun r7 =>
         bif (r7 == 0) then
          (kK F x1 x2 x3 x4 (DKey.mk z7 z8 z9) z10 (if (1:Int) < (IntKind.i64.wrap (x5 + r5)) then IntKind.i64.wrap (x5 + r5) else 1)).bind fun r8 =>
          some (.inl (x1,x2,r8.1,r8.2.1,IntKind.i64.wrap (x5 + r5)))
         else
          bif (r7 == 1) then
           (kJ F x1 x2 x3 x4 (DKey.mk z7 z8 z9) (if (1:Int) < (IntKind.i64.wrap (x5 + r5)) then IntKind.i64.wrap (x5 + r5) else 1)).bind fun r9 =>
           some (.inl (x1,x2,r9.1,r9.2.1,IntKind.i64.wrap (x5 + r5)))
          else
           (
            (
             (jT 16 ([] : List ByteArray) x1).bind fun _ =>
              (jT 24 ([] : List DWrite) x2).bind fun _ =>
              some () : Option (Unit)).bind fun _ =>
             some () : Option (Unit)).bind fun _ =>
           (my F (([] : List ByteArray) ++ x1) (([] : List DWrite) ++ x2)).bind fun r12 =>
           (
            (me F (DTree.mk r12.2.2.1 r12.2.2.2)).bind fun r14 =>
             some r14.1:Option ((List DElem))).bind fun z11 =>
           (
            (me F (DTree.mk x3 x4)).bind fun r15 =>
             some r15.1:Option ((List DElem))).bind fun z12 =>
           (kx F x1 x2 x3 x4).bind fun r16 =>
           (
            bif (r16.2.2.2 != 0) then
             some true
             else
              some ((r16.2.2.1.length:Int) == 0) : Option (Bool)).bind fun z13 =>
           bif z13 then
            some (.inr (.inr (.inr false)))
           else
            (lc e1 2).bind fun r17 =>
            (ke r17 (r16.2.2.1.length:Int)).bind fun r18 =>
            (idx r16.2.2.1 r18).bind fun e4 =>
            (nU F e4 p3).bind fun r19 =>
            bif (r19.2 != 0) then
             some (.inr (.inr (.inr false)))
            else
             (mc F r19.1.pages r19.1.writes).bind fun r20 =>
             (
              (me F (DTree.mk r20.2.2.1 r20.2.2.2)).bind fun r22 =>
               some r22.1:Option ((List DElem))).bind fun z14 =>
             (
              (kz F z14 z11).bind fun r23 =>
               bif (!r23) then
                (kz F z14 z12).bind fun r24 =>
                some (!r24)
               else
                some false:Option (Bool)).bind fun z15 =>
             bif z15 then
              some (.inr (.inr (.inr false)))
             else
              some (.inl (r20.1,r20.2.1,r20.2.2.1,r20.2.2.2,IntKind.i64.wrap (x5 + r5))) : Option (((List ByteArray) × (List DWrite) × Int × (List DNode) × Int) ⊕ (((List ByteArray) × (List DWrite) × Int × (List DNode) × Int × Int) ⊕ ((Unit) ⊕ Bool)))).bind fun z=>match z with
      | .inl (z2,z3,z4,z5,z6) =>
       some (.inl (z2,z3,z4,z5,z6,IntKind.i64.wrap (x6 + 1)))
      | .inr q=>some q
     else
      some (.inr (.inl ()))) F (r1.1,[],r1.2.1,r1.2.2,0,0)).bind fun z=>match z with
   | .inl _ =>
    some true
   | .inr q=>some q
end Go.Proofs.YtaoocidchclpnaaGreat
