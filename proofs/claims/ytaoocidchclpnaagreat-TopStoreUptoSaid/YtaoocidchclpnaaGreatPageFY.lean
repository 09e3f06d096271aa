/- Pure functions of group Page. Conditions: none. -/
import Derived.Test.YtaoocidchclpnaaGreatNodeFY
import Derived.Test.YtaoocidchclpnaaGreatCodeFY
import Derived.Test.YtaoocidchclpnaaGreatMapY
open ByteArray renaming mk→a_
namespace Go.Proofs.YtaoocidchclpnaaGreat
set_option linter.unusedVariables false
def mQ (F:Nat) (p0:DNode) : Option (ByteArray × Int) :=
 (l8 F p0).bind fun r1 =>
 bif (r1 != 0) then
  some ((a_ #[]),r1)
 else
  (iter (σ:=ByteArray × Int) (ρ:=ByteArray) (fun x=>match x with
   | (x1,x2) =>
    bif decide (x2 < (p0.elems.length:Int)) then
     (idx p0.elems x2).bind fun e1 =>
     (mN F e1).bind fun r2 =>
     (mv x1 r2.1).bind fun s2 =>
     some (.inl (s2,IntKind.i64.wrap (x2 + 1)))
     else
      some (.inr x1)) F ((a_ #[]),0)).bind fun z1 =>
  (iter (σ:=ByteArray × Int) (ρ:=ByteArray) (fun x=>match x with
   | (x3,x4) =>
    bif decide (x4 < (p0.kids.length:Int)) then
     (
      (idx p0.kids x4).bind fun e2 =>
       (ko F e2 2).bind fun r3 =>
       (idx p0.tids x4).bind fun e3 =>
       (ko F e3 4).bind fun r4 =>
       (mv r3 r4).bind fun s4 =>
       (mv x3 s4).bind fun s5 =>
       bif decide ((0:Int) < x4) then
        (idx p0.seps (IntKind.i64.wrap (x4 - 1))).bind fun e4 =>
        (idx p0.seps (IntKind.i64.wrap (x4 - 1))).bind fun e5 =>
        (mN F (DElem.mk e4.key e5.made 0 (a_ #[]))).bind fun r5 =>
        (mv s5 r5.1).bind fun s6 =>
        some s6
       else
        some s5:Option (ByteArray)).bind fun z3 =>
     some (.inl (z3,IntKind.i64.wrap (x4 + 1)))
     else
      some (.inr x3)) F (z1,0)).bind fun z2 =>
  (mD F (DFrame.mk (IntKind.i64.wrap (1 + p0.kind)) z2)).bind fun r6 =>
  some (r6.1,r6.2)
def oR (F:Nat) (p0:ByteArray) : Option (DNode × Bool) :=
 (iter (σ:=(List DSpot) × (List Int) × (List Int) × ByteArray × Int) (ρ:=((List DSpot) × (List Int) × (List Int)) ⊕ (DNode × Bool)) (fun x=>match x with
  | (x1,x2,x3,x4,x5) =>
   bif (!(seq x4 (a_ #[]))) then
    (
     bif decide ((x4.size:Int) < 6) then
      some (.inr (.inr (.inr ((DNode.mk 2 [] x3 x1 x2),false))))
      else
       (jN x4 0 2).bind fun s2 =>
       (kD F s2).bind fun r4 =>
       (jT 8 x3 [r4]).bind fun y2 =>
       (jN x4 2 6).bind fun s3 =>
       (kD F s3).bind fun r5 =>
       (jT 8 x2 [r5]).bind fun y3 =>
       (jN x4 6 (x4.size:Int)).bind fun s4 =>
       bif (x5 == 0) then
        some (.inl (x1,(x2 ++ [r5]),(x3 ++ [r4]),s4))
       else
        (ou F s4).bind fun r6 =>
        bif ((r6.2.2 != 0) || ((r6.1.gone != 0) || (!(seq r6.1.val (a_ #[]))))) then
         some (.inr (.inr (.inr ((DNode.mk 2 [] (x3 ++ [r4]) x1 (x2 ++ [r5])),false))))
        else
         (jf r6.1).bind fun r7 =>
         (jT 32 x1 [r7]).bind fun y4 =>
         (jN s4 r6.2.1 (s4.size:Int)).bind fun s5 =>
         some (.inl ((x1 ++ [r7]),(x2 ++ [r5]),(x3 ++ [r4]),s5)) : Option (((List DSpot) × (List Int) × (List Int) × ByteArray) ⊕ (((List DSpot) × (List Int) × (List Int) × ByteArray × Int) ⊕ (((List DSpot) × (List Int) × (List Int)) ⊕ (DNode × Bool))))).bind fun z=>match z with
     | .inl (z4,z5,z6,z7) =>
      some (.inl (z4,z5,z6,z7,IntKind.i64.wrap (x5 + 1)))
     | .inr q=>some q
    else
     some (.inr (.inl (x1,x2,x3)))) F ([],[],[],p0,0)).bind fun z=>match z with
  | .inl (z1,z2,z3) =>
   some ((DNode.mk 2 [] z3 z1 z2),true)
  | .inr q=>some q
def nG (F:Nat) (p0:ByteArray) : Option (DNode × Int) :=
 (mC F p0).bind fun r1 =>
 bif (r1.2.2 != 0) then
  some ((DNode.mk 0 [] [] [] []),r1.2.2)
 else
  bif (r1.2.1 != (p0.size:Int)) then
   some ((DNode.mk 0 [] [] [] []),3)
  else
   (
    bif ((IntKind.i64.wrap (r1.1.kind - 1)) == 0) then
     some (IntKind.i64.wrap (r1.1.kind - 1),[],[],[],[],(seq r1.1.body (a_ #[])))
     else
      bif ((IntKind.i64.wrap (r1.1.kind - 1)) == 1) then
       (pN F r1.1.body).bind fun r2 =>
       some (IntKind.i64.wrap (r1.1.kind - 1),r2.1,[],[],[],(r2.2 == 0))
      else
       bif ((IntKind.i64.wrap (r1.1.kind - 1)) == 2) then
        (oR F r1.1.body).bind fun r3 =>
        some (r3.1.kind,r3.1.elems,r3.1.kids,r3.1.seps,r3.1.tids,r3.2)
       else
        some (IntKind.i64.wrap (r1.1.kind - 1),[],[],[],[],true) : Option (Int × (List DElem) × (List Int) × (List DSpot) × (List Int) × Bool)).bind fun z=>match z with
    | (z1,z2,z3,z4,z5,z6) =>
     (
      bif (!z6) then
       some true
       else
        (l8 F (DNode.mk z1 z2 z3 z4 z5)).bind fun r4 =>
        some (r4 != 0) : Option (Bool)).bind fun z7 =>
     bif z7 then
      some ((DNode.mk 0 [] [] [] []),3)
     else
      some ((DNode.mk z1 z2 z3 z4 z5),0)
end Go.Proofs.YtaoocidchclpnaaGreat
