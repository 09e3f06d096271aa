/- Pure functions, written by walkgen.py out of Go functions that change what they are handed. Their conditions: none. -/
import Derived.Test.YtaoocidchclpnaaGreatFrFY
import Derived.Test.YtaoocidchclpnaaGreatWrPFY
import Derived.Test.YtaoocidchclpnaaGreatWrCLY
import Derived.Test.YtaoocidchclpnaaGreatPackLY
import Derived.Test.YtaoocidchclpnaaGreatPageFY
import Derived.Test.YtaoocidchclpnaaGreatStepFY
import Derived.Test.YtaoocidchclpnaaGreatCpFY
import Derived.Test.YtaoocidchclpnaaGreatMapY
import Derived.Test.YtaoocidchclpnaaGreatInsY
import Derived.Test.YtaoocidchclpnaaGreatRecY
import Derived.Test.YtaoocidchclpnaaGreatTreeOY
import Derived.Test.YtaoocidchclpnaaGreatAnyLY
open List renaming replicate→a_
open ByteArray renaming mk→d_
namespace Go.Proofs.YtaoocidchclpnaaGreat
set_option linter.unusedVariables false
def mR (F:Nat) : Option ((List ByteArray) × Int × (List DNode)) :=
 (qV 16 (201:Int)).bind fun u1 =>
 (qh).bind fun r2 =>
 (
  (ko F r2.root 2).bind fun r3 =>
   (ko F (r2.nodes.length:Int) 2).bind fun r4 =>
   (mv r3 r4).bind fun s1 =>
   some s1:Option (ByteArray)).bind fun z4 =>
 (nK F 0 z4).bind fun r5 =>
 (idx (a_ ((201:Int).toNat) ((d_ #[]) : ByteArray)) 0).bind fun e1 =>
 (idx r2.nodes 0).bind fun e2 =>
 (mQ F e2).bind fun r6 =>
 (idx ((a_ ((201:Int).toNat) ((d_ #[]) : ByteArray)).set ((0:Int).toNat) r5.1) 1).bind fun e3 =>
 some ((((a_ ((201:Int).toNat) ((d_ #[]) : ByteArray)).set ((0:Int).toNat) r5.1).set ((1:Int).toNat) r6.1),r2.root,r2.nodes)
def my (F:Nat) (p903:List ByteArray) (p907:List DWrite) : Option ((List ByteArray) × (List DWrite) × Int × (List DNode)) :=
 (lL F (DDisk.mk p903 p907)).bind fun r1 =>
 bif (r1.2 != 0) then
  none
 else
  (mJ F r1.1).bind fun r2 =>
  bif ((r2.2.1.size:Int) != 4) then
   none
  else
   (jN r2.2.1 2 (r2.2.1.size:Int)).bind fun s1 =>
   (kD F s1).bind fun r3 =>
   bif decide ((100:Int) < r3) then
    none
   else
    (jN r2.2.1 0 2).bind fun s2 =>
    (kD F s2).bind fun r4 =>
    (iter (σ:=(List DNode) × Int) (ρ:=((List DNode)) ⊕ ((List ByteArray) × (List DWrite) × Int × (List DNode))) (fun x=>match x with
     | (x1,x2) =>
      bif decide (x2 < r3) then
       (idx r1.1.pages (IntKind.i64.wrap (1 + x2))).bind fun e1 =>
       (nG F e1).bind fun r6 =>
       bif (r6.2 != 0) then
        none
       else
        (jT 104 x1 [r6.1]).bind fun _ =>
        some (.inl ((x1 ++ [r6.1]),IntKind.i64.wrap (x2 + 1)))
       else
        some (.inr (.inl x1))) F ([],0)).bind fun z=>match z with
     | .inl z5 =>
      (lr F (DTree.mk r4 z5)).bind fun r7 =>
      bif (r7 != 0) then
       none
      else
       some (r1.1.pages,r1.1.writes,r4,z5)
     | .inr q=>some q
def mc (F:Nat) (p903:List ByteArray) (p907:List DWrite) : Option ((List ByteArray) × (List DWrite) × Int × (List DNode)) :=
 (lL F (DDisk.mk p903 p907)).bind fun r1 =>
 bif (r1.2 != 0) then
  none
 else
  (mJ F r1.1).bind fun r2 =>
  bif ((r2.2.1.size:Int) != 4) then
   none
  else
   (jN r2.2.1 2 (r2.2.1.size:Int)).bind fun s1 =>
   (kD F s1).bind fun r3 =>
   bif decide ((100:Int) < r3) then
    none
   else
    (jN r2.2.1 0 2).bind fun s2 =>
    (kD F s2).bind fun r4 =>
    (iter (σ:=(List DNode) × Int) (ρ:=((List DNode)) ⊕ ((List ByteArray) × (List DWrite) × Int × (List DNode))) (fun x=>match x with
     | (x1,x2) =>
      bif decide (x2 < r3) then
       (idx r1.1.pages (IntKind.i64.wrap (1 + x2))).bind fun e1 =>
       (nG F e1).bind fun r6 =>
       bif (r6.2 != 0) then
        none
       else
        (jT 104 x1 [r6.1]).bind fun _ =>
        some (.inl ((x1 ++ [r6.1]),IntKind.i64.wrap (x2 + 1)))
       else
        some (.inr (.inl x1))) F ([],0)).bind fun z=>match z with
     | .inl z5 =>
      (lr F (DTree.mk r4 z5)).bind fun r7 =>
      bif (r7 != 0) then
       none
      else
       some (r1.1.pages,r1.1.writes,r4,z5)
     | .inr q=>some q
def jU (F:Nat) (p904:List ByteArray) (p908:List DWrite) (p910:Int) (p913:List DNode) (p915:Int) (p918:List DNode) (p920:Int) : Option (Int × (List DNode) × Int) :=
 bif (p920 != 0) then
  some (p910,p913,p920)
 else
  (
   bif decide ((100:Int) < (p918.length:Int)) then
    (nT F (DTree.mk p915 p918)).bind fun r1 =>
    bif decide ((100:Int) < (r1.1.nodes.length:Int)) then
     some (.inr (p910,p913,8))
    else
     some (.inl (r1.1.root,r1.1.nodes))
    else
     some (.inl (p915,p918)) : Option ((Int × (List DNode)) ⊕ (Int × (List DNode) × Int))).bind fun z=>match z with
   | .inl (z4,z5) =>
    some (z4,z5,0)
   | .inr q=>some q
def kK (F:Nat) (p904:List ByteArray) (p908:List DWrite) (p910:Int) (p913:List DNode) (p915:DKey) (p916:ByteArray) (p917:Int) : Option (Int × (List DNode) × Int) :=
 (oV F (DTree.mk p910 p913) p915 p916 p917).bind fun r1 =>
 (jU F p904 p908 p910 p913 r1.1.root r1.1.nodes r1.2).bind fun r2 =>
 some (r2.1,r2.2.1,r2.2.2)
def kJ (F:Nat) (p904:List ByteArray) (p908:List DWrite) (p910:Int) (p913:List DNode) (p915:DKey) (p916:Int) : Option (Int × (List DNode) × Int) :=
 (oU F (DTree.mk p910 p913) p915 p916).bind fun r1 =>
 (jU F p904 p908 p910 p913 r1.1.root r1.1.nodes r1.2).bind fun r2 =>
 some (r2.1,r2.2.1,r2.2.2)
def kx (F:Nat) (p904:List ByteArray) (p908:List DWrite) (p910:Int) (p913:List DNode) : Option ((List ByteArray) × (List DWrite) × (List DDisk) × Int) :=
 (
  (ko F p910 2).bind fun r1 =>
   (ko F (p913.length:Int) 2).bind fun r2 =>
   (mv r1 r2).bind fun s1 =>
   some s1:Option (ByteArray)).bind fun z5 =>
 (
  (iter (σ:=(List DWrite) × Int) (ρ:=(List DWrite)) (fun x=>match x with
   | (x1,x2) =>
    bif decide (x2 < (p913.length:Int)) then
     (
      (idx p913 x2).bind fun e1 =>
       (mQ F e1).bind fun r4 =>
       (idx p904 (IntKind.i64.wrap (1 + x2))).bind fun e2 =>
       bif (!(seq e2 r4.1)) then
        (jT 24 x1 [(DWrite.mk (IntKind.i64.wrap (1 + x2)) r4.1)]).bind fun _ =>
        some (x1 ++ [(DWrite.mk (IntKind.i64.wrap (1 + x2)) r4.1)])
       else
        some x1:Option ((List DWrite))).bind fun z8 =>
     some (.inl (z8,IntKind.i64.wrap (x2 + 1)))
     else
      some (.inr x1)) F ([],0)).bind fun z7 =>
   some z7:Option ((List DWrite))).bind fun z6 =>
 (og F (DDisk.mk p904 p908) z5 z6).bind fun r5 =>
 bif (r5.2 != 0) then
  some (p904,p908,[],r5.2)
 else
  (idx r5.1 (IntKind.i64.wrap ((r5.1.length:Int) - 1))).bind fun e3 =>
  (
   (jT 16 ([] : List ByteArray) e3.pages).bind fun _ =>
    (jT 24 ([] : List DWrite) e3.writes).bind fun _ =>
    some () : Option (Unit)).bind fun _ =>
  some ((([] : List ByteArray) ++ e3.pages),(([] : List DWrite) ++ e3.writes),r5.1,0)
end Go.Proofs.YtaoocidchclpnaaGreat
