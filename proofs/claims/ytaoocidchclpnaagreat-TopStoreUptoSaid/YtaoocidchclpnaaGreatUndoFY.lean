/- Pure functions of group Undo. Conditions: none. -/
import Derived.Test.YtaoocidchclpnaaGreatDiskFY
import Derived.Test.YtaoocidchclpnaaGreatCodeFY
import Derived.Test.YtaoocidchclpnaaGreatMapY
open ByteArray renaming mk→a_
namespace Go.Proofs.YtaoocidchclpnaaGreat
set_option linter.unusedVariables false
def kC (F:Nat) (p0:ByteArray) : Option (Int) :=
 (jN p0 0 4).bind fun s1 =>
 (kD F s1).bind fun r1 =>
 some r1
def mK (F:Nat) (p0:Int) : Option (ByteArray) :=
 (ko F p0 4).bind fun r1 =>
 some r1
def nK (F:Nat) (p0:Int) (p1:ByteArray) : Option (ByteArray × Int) :=
 bif ((decide (p0 < 0)) || (decide ((2147483647:Int) < p0))) then
  some ((a_ #[]),1)
 else
  bif decide ((2900:Int) < (p1.size:Int)) then
   some ((a_ #[]),2)
  else
   (mK F p0).bind fun r1 =>
   (mv r1 p1).bind fun s1 =>
   (mD F (DFrame.mk 8 s1)).bind fun r2 =>
   some (r2.1,r2.2)
def mJ (F:Nat) (p0:DDisk) : Option (Int × ByteArray × Int) :=
 (kR F p0).bind fun r1 =>
 bif (r1 != 0) then
  some (0,(a_ #[]),r1)
 else
  bif ((p0.pages.length:Int) != 201) then
   some (0,(a_ #[]),3)
  else
   (mz F p0 0).bind fun r2 =>
   (mC F r2).bind fun r3 =>
   (
    bif (r3.2.2 != 0) then
     some true
     else
      bif (r3.1.kind != 8) then
       some true
      else
       bif decide ((r3.1.body.size:Int) < 4) then
        some true
       else
        (kC F r3.1.body).bind fun r4 =>
        some (decide ((2147483647:Int) < r4)) : Option (Bool)).bind fun z1 =>
   bif z1 then
    some (0,(a_ #[]),11)
   else
    (kC F r3.1.body).bind fun r5 =>
    (jN r3.1.body 4 (r3.1.body.size:Int)).bind fun s1 =>
    some (r5,s1,0)
def lL (F:Nat) (p0:DDisk) : Option (DDisk × Int) :=
 (mJ F p0).bind fun r1 =>
 bif (r1.2.2 != 0) then
  some ((DDisk.mk [] []),r1.2.2)
 else
  (
   (kR F p0).bind fun r2 =>
    bif (r2 != 0) then
     some ([],r2)
    else
     (
      (jT 16 ([] : List ByteArray) p0.pages).bind fun _ =>
       (iter (σ:=(List ByteArray) × Int) (ρ:=(List ByteArray)) (fun x=>match x with
        | (x1,x2) =>
         bif decide (x2 < (p0.writes.length:Int)) then
          (idx p0.writes x2).bind fun e1 =>
          (idx x1 e1.page).bind fun e2 =>
          some (.inl ((x1.set e1.page.toNat e1.text),IntKind.i64.wrap (x2 + 1)))
          else
           some (.inr x1)) F ((([] : List ByteArray) ++ p0.pages),0)).bind fun z4 =>
       some z4:Option ((List ByteArray))).bind fun z3 =>
     some (z3,0) : Option ((List ByteArray) × Int)).bind fun z=>match z with
   | (z1,z2) =>
    (iter (σ:=(List ByteArray) × Int) (ρ:=(List ByteArray)) (fun x=>match x with
     | (x3,x4) =>
      bif decide (x4 < 201) then
       (
        (idx x3 x4).bind fun e3 =>
         (mC F e3).bind fun r5 =>
         (
          bif (r5.2.2 != 0) then
           some true
           else
            bif (r5.1.kind != 9) then
             some true
            else
             bif decide ((r5.1.body.size:Int) < 8) then
              some true
             else
              (kC F r5.1.body).bind fun r6 =>
              some (decide (r6≤r1.1)) : Option (Bool)).bind fun z7 =>
         bif z7 then
          some x3
         else
          (
           (jN r5.1.body 4 (r5.1.body.size:Int)).bind fun s3 =>
            (kC F s3).bind fun r7 =>
            (
             (kC F r5.1.body).bind fun r8 =>
              bif (r8 == (IntKind.i64.wrap (r1.1 + 1))) then
               bif decide ((1:Int)≤r7) then
                some (decide (r7 < 101))
               else
                some false
              else
               some false:Option (Bool)).bind fun z9 =>
            bif z9 then
             (jN r5.1.body 8 (r5.1.body.size:Int)).bind fun s4 =>
             (idx x3 r7).bind fun e4 =>
             some (x3.set r7.toNat s4)
            else
             some x3:Option ((List ByteArray))).bind fun z8 =>
          (idx z8 x4).bind fun e5 =>
          some (z8.set x4.toNat (a_ #[])) : Option ((List ByteArray))).bind fun z6 =>
       some (.inl (z6,IntKind.i64.wrap (x4 + 1)))
       else
        some (.inr x3)) F (z1,101)).bind fun z5 =>
    some ((DDisk.mk z5 []),0)
end Go.Proofs.YtaoocidchclpnaaGreat
