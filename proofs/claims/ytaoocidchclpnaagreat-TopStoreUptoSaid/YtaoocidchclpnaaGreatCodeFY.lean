/- Pure functions of group Code. Conditions: none. -/
import Derived.Test.YtaoocidchclpnaaGreatEqLY
import Derived.Test.YtaoocidchclpnaaGreatMapY
open ByteArray renaming mk→a_
namespace Go.Proofs.YtaoocidchclpnaaGreat
set_option linter.unusedVariables false
def qF (F:Nat) (p0:ByteArray) : Option (Int) :=
 (iter (σ:=Int × Int) (ρ:=Int) (fun x=>match x with
  | (x1,x2) =>
   bif decide (x2 < (p0.size:Int)) then
    (qc p0 x2).bind fun b1 =>
    (iter (σ:=Int × Int) (ρ:=Int) (fun x=>match x with
     | (x3,x4) =>
      bif decide (x4 < 8) then
       (
        bif ((ut .u16 x3 32768) != 0) then
         some (uj .u16 (shl .u16 x3 1) 4129)
         else
          some (shl .u16 x3 1) : Option (Int)).bind fun z3 =>
       some (.inl (z3,IntKind.i64.wrap (x4 + 1)))
       else
        some (.inr x3)) F (uj .u16 x1 (shl .u16 (IntKind.u16.wrap (b1.toNat:Int)) 8),0)).bind fun z2 =>
    some (.inl (z2,IntKind.i64.wrap (x2 + 1)))
    else
     some (.inr x1)) F (0,0)).bind fun z1 =>
 some (IntKind.i64.wrap z1)
def nD (p0:Int) : Option (ByteArray) :=
 some (lu [IntKind.u8.wrap (shr .i64 p0 8),IntKind.u8.wrap p0])
def lI (p0:ByteArray) : Option (Int) :=
 (qc p0 0).bind fun b1 =>
 (qc p0 1).bind fun b2 =>
 some (bor .i64 (shl .i64 (IntKind.i64.wrap (b1.toNat:Int)) 8) (IntKind.i64.wrap (b2.toNat:Int)))
def mD (F:Nat) (p0:DFrame) : Option (ByteArray × Int) :=
 bif ((decide (p0.kind < 1)) || (decide ((255:Int) < p0.kind))) then
  some ((a_ #[]),1)
 else
  bif decide ((3000:Int) < (p0.body.size:Int)) then
   some ((a_ #[]),2)
  else
   (nD (p0.body.size:Int)).bind fun r1 =>
   (mv (lu [IntKind.u8.wrap p0.kind]) r1).bind fun s1 =>
   (mv s1 p0.body).bind fun s2 =>
   (qF F s2).bind fun r2 =>
   (nD r2).bind fun r3 =>
   (mv s2 r3).bind fun s3 =>
   some (s3,0)
def mC (F:Nat) (p0:ByteArray) : Option (DFrame × Int × Int) :=
 bif decide ((p0.size:Int) < 5) then
  some ((DFrame.mk 0 (a_ #[])),0,7)
 else
  (jN p0 1 (p0.size:Int)).bind fun s1 =>
  (lI s1).bind fun r1 =>
  (
   (qc p0 0).bind fun b2 =>
    bif ((b2.toNat:Int) == 0) then
     some true
    else
     some (decide ((3000:Int) < r1)) : Option (Bool)).bind fun z1 =>
  bif z1 then
   some ((DFrame.mk 0 (a_ #[])),0,3)
  else
   bif decide ((p0.size:Int) < (IntKind.i64.wrap (r1 + 5))) then
    some ((DFrame.mk 0 (a_ #[])),0,7)
   else
    (jN p0 (IntKind.i64.wrap (r1 + 3)) (p0.size:Int)).bind fun s2 =>
    (lI s2).bind fun r2 =>
    (jN p0 0 (IntKind.i64.wrap (r1 + 3))).bind fun s3 =>
    (qF F s3).bind fun r3 =>
    bif (r2 != r3) then
     some ((DFrame.mk 0 (a_ #[])),0,6)
    else
     (qc p0 0).bind fun b3 =>
     (jN p0 3 (IntKind.i64.wrap (r1 + 3))).bind fun s4 =>
     some ((DFrame.mk (IntKind.i64.wrap (b3.toNat:Int)) s4),IntKind.i64.wrap (r1 + 5),0)
def ko (F:Nat) (p0:Int) (p1:Int) : Option (ByteArray) :=
 (qV 1 p1).bind fun u1 =>
 (iter (σ:=(List Int) × Int × Int) (ρ:=(List Int)) (fun x=>match x with
  | (x1,x2,x3) =>
   bif decide (x3 < ((List.replicate p1.toNat (0:Int)).length:Int)) then
    (idx x1 (IntKind.i64.wrap ((IntKind.i64.wrap (p1 - 1)) - x3))).bind fun e1 =>
    some (.inl ((x1.set ((IntKind.i64.wrap ((IntKind.i64.wrap (p1 - 1)) - x3)).toNat) (IntKind.u8.wrap x2)),shr .i64 x2 8,IntKind.i64.wrap (x3 + 1)))
    else
     some (.inr x1)) F ((List.replicate p1.toNat (0:Int)),p0,0)).bind fun z1 =>
 some (lu z1)
def kD (F:Nat) (p0:ByteArray) : Option (Int) :=
 (iter (σ:=Int × Int) (ρ:=Int) (fun x=>match x with
  | (x1,x2) =>
   bif decide (x2 < (p0.size:Int)) then
    (qc p0 x2).bind fun b1 =>
    some (.inl (bor .i64 (shl .i64 x1 8) (IntKind.i64.wrap (b1.toNat:Int)),IntKind.i64.wrap (x2 + 1)))
    else
     some (.inr x1)) F (0,0)).bind fun z1 =>
 some z1
def mN (F:Nat) (p0:DElem) : Option (ByteArray × Int) :=
 (j7 p0).bind fun r1 =>
 bif (r1 != 0) then
  some ((a_ #[]),r1)
 else
  (ko F p0.key.pfs 1).bind fun r2 =>
  (ko F p0.key.obj 4).bind fun r3 =>
  (mv r2 r3).bind fun s1 =>
  (ko F p0.key.off 4).bind fun r4 =>
  (mv s1 r4).bind fun s2 =>
  (ko F p0.made 4).bind fun r5 =>
  (mv s2 r5).bind fun s3 =>
  (ko F p0.gone 4).bind fun r6 =>
  (mv s3 r6).bind fun s4 =>
  (ko F (p0.val.size:Int) 1).bind fun r7 =>
  (mv s4 r7).bind fun s5 =>
  (mv s5 p0.val).bind fun s6 =>
  some (s6,0)
def ou (F:Nat) (p0:ByteArray) : Option (DElem × Int × Int) :=
 (
  bif decide ((p0.size:Int) < 18) then
   some true
   else
    (qc p0 17).bind fun b3 =>
    some (decide ((p0.size:Int) < (IntKind.i64.wrap (18 + (IntKind.i64.wrap (b3.toNat:Int)))))) : Option (Bool)).bind fun z1 =>
 bif z1 then
  some ((DElem.mk (DKey.mk 0 0 0) 0 0 (a_ #[])),0,7)
 else
  (qc p0 17).bind fun b4 =>
  (qc p0 0).bind fun b5 =>
  (jN p0 18 (IntKind.i64.wrap (18 + (IntKind.i64.wrap (b4.toNat:Int))))).bind fun s1 =>
  (
   (jN p0 1 5).bind fun s2 =>
    (kD F s2).bind fun r1 =>
    some r1:Option (Int)).bind fun z2 =>
  (
   (jN p0 5 9).bind fun s3 =>
    (kD F s3).bind fun r2 =>
    some r2:Option (Int)).bind fun z3 =>
  (
   (jN p0 9 13).bind fun s4 =>
    (kD F s4).bind fun r3 =>
    some r3:Option (Int)).bind fun z4 =>
  (
   (jN p0 13 17).bind fun s5 =>
    (kD F s5).bind fun r4 =>
    some r4:Option (Int)).bind fun z5 =>
  (j7 (DElem.mk (DKey.mk (IntKind.i64.wrap (b5.toNat:Int)) z2 z3) z4 z5 s1)).bind fun r5 =>
  bif (r5 != 0) then
   some ((DElem.mk (DKey.mk 0 0 0) 0 0 (a_ #[])),0,3)
  else
   some ((DElem.mk (DKey.mk (IntKind.i64.wrap (b5.toNat:Int)) z2 z3) z4 z5 s1),IntKind.i64.wrap (18 + (IntKind.i64.wrap (b4.toNat:Int))),0)
def pN (F:Nat) (p0:ByteArray) : Option (((List DElem)) × Int) :=
 (iter (σ:=(List DElem) × ByteArray) (ρ:=((List DElem)) ⊕ (((List DElem)) × Int)) (fun x=>match x with
  | (x1,x2) =>
   bif (!(seq x2 (a_ #[]))) then
    (ou F x2).bind fun r2 =>
    bif (r2.2.2 != 0) then
     some (.inr (.inr ([],r2.2.2)))
    else
     (jT 56 x1 [r2.1]).bind fun _ =>
     (jN x2 r2.2.1 (x2.size:Int)).bind fun s2 =>
     some (.inl ((x1 ++ [r2.1]),s2))
    else
     some (.inr (.inl x1))) F ([],p0)).bind fun z=>match z with
  | .inl z1 =>
   some (z1,0)
  | .inr q=>some q
end Go.Proofs.YtaoocidchclpnaaGreat
