/- Pure functions, written by walkgen.py out of Go functions that change what they are handed. Their conditions: none. -/
import Derived.Test.YtfbpiogbhkgieaaGreatNodeFL
import Derived.Test.YtfbpiogbhkgieaaGreatInsL
import Derived.Test.YtfbpiogbhkgieaaGreatRecL
import Derived.Test.YtfbpiogbhkgieaaGreatTreeOL
import Derived.Test.YtfbpiogbhkgieaaGreatAnyLL
namespace Go.Proofs.YtfbpiogbhkgieaaGreat
set_option linter.unusedVariables false
def jC (F:Nat) (p902:Int) (p907:List (Int ⊕ DNode)) (p909:Int) (p910:DElem) : Option ((List (Int ⊕ DNode))) :=
 (nS (σ:=(List (Int ⊕ DNode)) × Int) (ρ:=(List (Int ⊕ DNode))) (fun rf1 x=>match x with
  | (x1,x2) =>
   (j6 x1 x2).bind fun n1 =>
    bif (n1.kind == 1) then
     (iter (σ:=(List DElem) × Int) (ρ:=(List DElem)) (fun x=>match x with
      | (x3,x4) =>
       bif decide (x4 < (n1.elems.length:Int)) then
        (
         (idx x3 x4).bind fun e1 =>
          (jb e1).bind fun r5 =>
          (jb p910).bind fun r6 =>
          bif (r5 == r6) then
           (idx x3 x4).bind fun e2 =>
           some (x3.set x4.toNat p910)
          else
           some x3:Option ((List DElem))).bind fun z3 =>
        some (.inl (z3,IntKind.i64.wrap (x4 + 1)))
        else
         some (.inr x3)) F (n1.elems,0)).bind fun z2 =>
     (sA n1 (DNode.mk n1.kind z2 n1.kids n1.seps n1.tids)).bind fun u1 =>
     some (jq (iZ x1 x2) x2 (DNode.mk n1.kind z2 n1.kids n1.seps n1.tids))
    else
     (jb p910).bind fun r7 =>
     (lE F n1 r7).bind fun r8 =>
     (idx n1.kids r8).bind fun e3 =>
     (rf1 ((iZ x1 x2),e3)).bind fun z4 =>
     (idx n1.kids r8).bind fun e4 =>
     (j6 z4 e4).bind fun n2 =>
     (jm F n2).bind fun r9 =>
     (idx n1.tids r8).bind fun e5 =>
     (sA n1 (DNode.mk n1.kind n1.elems n1.kids n1.seps (n1.tids.set r8.toNat r9))).bind fun u2 =>
     some (jq z4 x2 (DNode.mk n1.kind n1.elems n1.kids n1.seps (n1.tids.set r8.toNat r9)))) F (p907,p909)).bind fun z1 =>
 some z1
def lr (p901:Int) (p904:List DElem) (p908:List Int) (p912:List DSpot) (p916:List Int) : Option ((List Int) × (List DSpot) × (List Int) × (List DElem) × (List DElem) × (List Int) × (List DSpot) × (List Int) × Int × Int × Int × Int × Int) :=
 bif (p901 == 1) then
  (i9 p904 4 (p904.length:Int)).bind fun s1 =>
  (lf 56 ([] : List DElem) s1).bind fun _ =>
  (i9 p904 0 4).bind fun s2 =>
  (idx s1 0).bind fun e1 =>
  (jb e1).bind fun r2 =>
  some ([],[],[],s1,s2,p908,p912,p916,r2.key.pfs,r2.key.obj,r2.key.off,r2.made,1)
 else
  (i9 p908 4 (p908.length:Int)).bind fun s3 =>
  (i9 p912 4 (p912.length:Int)).bind fun s4 =>
  (i9 p916 4 (p916.length:Int)).bind fun s5 =>
  (lf 8 ([] : List Int) s3).bind fun y2 =>
  (lf 32 ([] : List DSpot) s4).bind fun y3 =>
  (lf 8 ([] : List Int) s5).bind fun y4 =>
  (idx p912 3).bind fun e2 =>
  (i9 p908 0 4).bind fun s6 =>
  (i9 p912 0 3).bind fun s7 =>
  (i9 p916 0 4).bind fun s8 =>
  some (s5,s4,s3,[],p904,s6,s7,s8,e2.key.pfs,e2.key.obj,e2.key.off,e2.made,2)
def ke (F:Nat) (p902:Int) (p907:List (Int ⊕ DNode)) (p909:Int) (p912:List DElem) (p916:List Int) (p920:List DSpot) (p924:List Int) : Option ((List (Int ⊕ DNode)) × Int) :=
 (iter (σ:=Int) (ρ:=(Unit) ⊕ ((List (Int ⊕ DNode)) × Int)) (fun x1 =>
  bif decide (x1 < (p907.length:Int)) then
   (qI p907 x1).bind fun kd1 =>
   bif (kd1 == 0) then
    (kH p907 x1).bind fun u1 =>
    some (.inr (.inr ((jq p907 x1 (DNode.mk p909 p912 p916 p920 p924)),x1)))
   else
    some (.inl (IntKind.i64.wrap (x1 + 1)))
   else
    some (.inr (.inl ()))) F 0).bind fun z=>match z with
  | .inl _ =>
   (pG 104 (p907.length + 1)).bind fun u2 =>
   some ((p907 ++ [(Sum.inr (DNode.mk p909 p912 p916 p920 p924) : Int ⊕ DNode)]),IntKind.i64.wrap (((p907 ++ [(Sum.inr (DNode.mk p909 p912 p916 p920 p924) : Int ⊕ DNode)]).length:Int) - 1))
  | .inr q=>some q
def kr (F:Nat) (p902:Int) (p907:List (Int ⊕ DNode)) (p909:Int) (p910:DElem) : Option ((List (Int ⊕ DNode)) × Int × Int × Int × Int × Int × Bool) :=
 (nS (σ:=(List (Int ⊕ DNode)) × Int) (ρ:=(List (Int ⊕ DNode)) × Int × Int × Int × Int × Int × Bool) (fun rf1 x=>match x with
  | (x1,x2) =>
   (j6 x1 x2).bind fun n1 =>
    (
     bif (n1.kind == 1) then
      (iter (σ:=Int) (ρ:=Int) (fun x3 =>
       (
        bif decide (x3 < (n1.elems.length:Int)) then
         (idx n1.elems x3).bind fun e1 =>
         (jb e1).bind fun r5 =>
         (jb p910).bind fun r6 =>
         (jt r5 r6).bind fun r7 =>
         some (decide (r7 < 0))
         else
          some false:Option (Bool)).bind fun z14 =>
        bif z14 then
         some (.inl (IntKind.i64.wrap (x3 + 1)))
        else
         some (.inr x3)) F 0).bind fun z13 =>
      (rm 56 n1.elems z13 p910).bind fun _ =>
      some ((jn n1.elems z13.toNat p910),n1.kids,n1.seps,n1.tids,(iZ x1 x2))
      else
       (jb p910).bind fun r8 =>
       (lE F n1 r8).bind fun r9 =>
       (idx n1.kids r9).bind fun e2 =>
       (rf1 ((iZ x1 x2),e2)).bind fun z=>match z with
        | (z15,z16,z17,z18,z19,z20,z21) =>
         (idx n1.kids r9).bind fun e3 =>
         (j6 z15 e3).bind fun n2 =>
         (jm F n2).bind fun r10 =>
         (idx n1.tids r9).bind fun e4 =>
         bif z21 then
          (rm 8 n1.kids (IntKind.i64.wrap (r9 + 1)) z20).bind fun _ =>
          (rm 32 n1.seps r9 (DSpot.mk (DKey.mk z16 z17 z18) z19)).bind fun _ =>
          (j6 z15 z20).bind fun n3 =>
          (jm F n3).bind fun r11 =>
          (rm 8 (n1.tids.set r9.toNat r10) (IntKind.i64.wrap (r9 + 1)) r11).bind fun _ =>
          some (n1.elems,(jn n1.kids (IntKind.i64.wrap (r9 + 1)).toNat z20),(jn n1.seps r9.toNat (DSpot.mk (DKey.mk z16 z17 z18) z19)),(jn (n1.tids.set r9.toNat r10) (IntKind.i64.wrap (r9 + 1)).toNat r11),z15)
         else
          some (n1.elems,n1.kids,n1.seps,(n1.tids.set r9.toNat r10),z15) : Option ((List DElem) × (List Int) × (List DSpot) × (List Int) × (List (Int ⊕ DNode)))).bind fun z=>match z with
     | (z8,z9,z10,z11,z12) =>
      bif decide ((IntKind.i64.wrap ((z8.length:Int) + (z9.length:Int)))≤8) then
       (kH z12 x2).bind fun u1 =>
       some ((jq z12 x2 (DNode.mk n1.kind z8 z9 z10 z11)),0,0,0,0,0,false)
      else
       (lr n1.kind z8 z9 z10 z11).bind fun r12 =>
       (kH z12 x2).bind fun u2 =>
       (ke F p902 (jq z12 x2 (DNode.mk n1.kind r12.2.2.2.2.1 r12.2.2.2.2.2.1 r12.2.2.2.2.2.2.1 r12.2.2.2.2.2.2.2.1)) r12.2.2.2.2.2.2.2.2.2.2.2.2 r12.2.2.2.1 r12.2.2.1 r12.2.1 r12.1).bind fun r21 =>
       some (r21.1,r12.2.2.2.2.2.2.2.2.1,r12.2.2.2.2.2.2.2.2.2.1,r12.2.2.2.2.2.2.2.2.2.2.1,r12.2.2.2.2.2.2.2.2.2.2.2.1,r21.2,true)) F (p907,p909)).bind fun z=>match z with
  | (z1,z2,z3,z4,z5,z6,z7) =>
   some (z1,z2,z3,z4,z5,z6,z7)
def km (F:Nat) (p902:Int) (p907:List (Int ⊕ DNode)) (p909:DElem) : Option (Int × (List (Int ⊕ DNode))) :=
 (kr F p902 p907 p902 p909).bind fun r1 =>
 bif (!r1.2.2.2.2.2.2) then
  some (p902,r1.1)
 else
  (j6 r1.1 p902).bind fun n1 =>
  (j6 r1.1 r1.2.2.2.2.2.1).bind fun n2 =>
  (jm F n1).bind fun r2 =>
  (jm F n2).bind fun r3 =>
  (ke F p902 r1.1 2 [] [p902,r1.2.2.2.2.2.1] [(DSpot.mk (DKey.mk r1.2.1 r1.2.2.1 r1.2.2.2.1) r1.2.2.2.2.1)] [r2,r3]).bind fun r8 =>
  some (r8.2,r8.1)
def lI (p901:Int) (p904:List DElem) (p908:List Int) (p912:List DSpot) (p916:List Int) (p918:Int) (p921:List DElem) (p925:List Int) (p929:List DSpot) (p933:List Int) (p935:DSpot) : Option ((List DSpot)) :=
 (lf 56 p904 p921).bind fun _ =>
 (
  bif (p901 == 2) then
   (lf 32 p912 [p935]).bind fun y2 =>
   (lf 32 (p912 ++ [p935]) p929).bind fun y3 =>
   some ((p912 ++ [p935]) ++ p929)
   else
    some p912:Option ((List DSpot))).bind fun z2 =>
 (lf 8 p908 p925).bind fun _ =>
 (lf 8 p916 p933).bind fun _ =>
 some z2
def ku (F:Nat) (p902:Int) (p907:List (Int ⊕ DNode)) (p909:Int) (p912:List DElem) (p916:List Int) (p920:List DSpot) (p924:List Int) (p926:Int) : Option ((List (Int ⊕ DNode)) × (List Int) × (List DSpot) × (List Int)) :=
 (
  bif (p926 == (IntKind.i64.wrap ((p916.length:Int) - 1))) then
   some (IntKind.i64.wrap (p926 - 1))
   else
    some p926:Option (Int)).bind fun z5 =>
 (idx p916 z5).bind fun e1 =>
 (idx p916 (IntKind.i64.wrap (z5 + 1))).bind fun e2 =>
 (j6 p907 e1).bind fun n1 =>
 (j6 (iZ p907 e1) e2).bind fun n2 =>
 (idx p920 z5).bind fun e3 =>
 (lI n1.kind n1.elems n1.kids n1.seps n1.tids n2.kind n2.elems n2.kids n2.seps n2.tids e3).bind fun r9 =>
 (
  bif decide ((8:Int) < (IntKind.i64.wrap (((n1.elems ++ n2.elems).length:Int) + ((n1.kids ++ n2.kids).length:Int)))) then
   (lr n1.kind (n1.elems ++ n2.elems) (n1.kids ++ n2.kids) r9 (n1.tids ++ n2.tids)).bind fun r10 =>
   (kH (iZ (iZ p907 e1) e2) e1).bind fun u1 =>
   (kH (jq (iZ (iZ p907 e1) e2) e1 (DNode.mk n1.kind r10.2.2.2.2.1 r10.2.2.2.2.2.1 r10.2.2.2.2.2.2.1 r10.2.2.2.2.2.2.2.1)) e2).bind fun u2 =>
   (idx p920 z5).bind fun e6 =>
   (jm F (DNode.mk r10.2.2.2.2.2.2.2.2.2.2.2.2 r10.2.2.2.1 r10.2.2.1 r10.2.1 r10.1)).bind fun r19 =>
   (idx p924 (IntKind.i64.wrap (z5 + 1))).bind fun e7 =>
   some (p916,(p920.set z5.toNat (DSpot.mk (DKey.mk r10.2.2.2.2.2.2.2.2.1 r10.2.2.2.2.2.2.2.2.2.1 r10.2.2.2.2.2.2.2.2.2.2.1) r10.2.2.2.2.2.2.2.2.2.2.2.1)),(p924.set ((IntKind.i64.wrap (z5 + 1)).toNat) r19),(jq (jq (iZ (iZ p907 e1) e2) e1 (DNode.mk n1.kind r10.2.2.2.2.1 r10.2.2.2.2.2.1 r10.2.2.2.2.2.2.1 r10.2.2.2.2.2.2.2.1)) e2 (DNode.mk r10.2.2.2.2.2.2.2.2.2.2.2.2 r10.2.2.2.1 r10.2.2.1 r10.2.1 r10.1)))
   else
    (kH (iZ (iZ p907 e1) e2) e1).bind fun u3 =>
    (kH (jq (iZ (iZ p907 e1) e2) e1 (DNode.mk n1.kind (n1.elems ++ n2.elems) (n1.kids ++ n2.kids) r9 (n1.tids ++ n2.tids))) e2).bind fun u4 =>
    (rK p916 (IntKind.i64.wrap (z5 + 1)) (IntKind.i64.wrap (z5 + 2))).bind fun _ =>
    (rK p920 z5 (IntKind.i64.wrap (z5 + 1))).bind fun _ =>
    (rK p924 (IntKind.i64.wrap (z5 + 1)) (IntKind.i64.wrap (z5 + 2))).bind fun _ =>
    some ((jM p916 (IntKind.i64.wrap (z5 + 1)).toNat (IntKind.i64.wrap (z5 + 2)).toNat),(jM p920 z5.toNat (IntKind.i64.wrap (z5 + 1)).toNat),(jM p924 (IntKind.i64.wrap (z5 + 1)).toNat (IntKind.i64.wrap (z5 + 2)).toNat),(jq (jq (iZ (iZ p907 e1) e2) e1 (DNode.mk n1.kind (n1.elems ++ n2.elems) (n1.kids ++ n2.kids) r9 (n1.tids ++ n2.tids))) e2 (DNode.mk 0 [] [] [] []))) : Option ((List Int) × (List DSpot) × (List Int) × (List (Int ⊕ DNode)))).bind fun z=>match z with
  | (z6,z7,z8,z9) =>
   (j6 z9 e1).bind fun n7 =>
   (jm F n7).bind fun r24 =>
   (idx z8 z5).bind fun e10 =>
   some (z9,z6,z7,(z8.set z5.toNat r24))
def kg (F:Nat) (p902:Int) (p907:List (Int ⊕ DNode)) (p909:Int) (p910:DSpot) : Option ((List (Int ⊕ DNode))) :=
 (nS (σ:=(List (Int ⊕ DNode)) × Int) (ρ:=(List (Int ⊕ DNode))) (fun rf1 x=>match x with
  | (x1,x2) =>
   (j6 x1 x2).bind fun n1 =>
    bif (n1.kind == 1) then
     (
      (
       (iter (σ:=Int) (ρ:=(Unit) ⊕ Int) (fun x3 =>
        bif decide (x3 < (n1.elems.length:Int)) then
         (idx n1.elems x3).bind fun e1 =>
         (
          (jb e1).bind fun r5 =>
           some (r5 == p910) : Option (Bool)).bind fun z4 =>
         bif z4 then
          some (.inr (.inr x3))
         else
          some (.inl (IntKind.i64.wrap (x3 + 1)))
         else
          some (.inr (.inl ()))) F 0).bind fun z=>match z with
        | .inl _ =>
         some (-1)
        | .inr q=>some q:Option (Int)).bind fun z3 =>
       bif (z3 == (-1)) then
        some n1.elems
       else
        (iter (σ:=(List DElem) × Int × Int) (ρ:=(List DElem) × Int) (fun x=>match x with
         | (x4,x5,x6) =>
          bif decide (x6 < (x4.length:Int)) then
           (
            (idx x4 x6).bind fun e2 =>
             (
              (jb e2).bind fun r6 =>
               some (r6 == p910) : Option (Bool)).bind fun z9 =>
             bif (!z9) then
              (idx x4 x5).bind fun e3 =>
              some ((x4.set x5.toNat e2),IntKind.i64.wrap (x5 + 1))
             else
              some (x4,x5) : Option ((List DElem) × Int)).bind fun z=>match z with
            | (z7,z8) =>
             some (.inl (z7,z8,IntKind.i64.wrap (x6 + 1)))
           else
            some (.inr (x4,x5))) F (n1.elems,z3,IntKind.i64.wrap (z3 + 1))).bind fun z=>match z with
         | (z5,z6) =>
          (i9 z5 z6 (z5.length:Int)).bind fun s2 =>
          (i9 (over z5 z6.toNat (List.replicate s2.length ((DElem.mk (DKey.mk 0 0 0) 0 0 (ByteArray.mk #[])) : DElem))) 0 z6).bind fun s3 =>
          some s3:Option ((List DElem))).bind fun z2 =>
     (kH (iZ x1 x2) x2).bind fun u1 =>
     some (jq (iZ x1 x2) x2 (DNode.mk n1.kind z2 n1.kids n1.seps n1.tids))
    else
     (lE F n1 p910).bind fun r7 =>
     (idx n1.kids r7).bind fun e5 =>
     (rf1 ((iZ x1 x2),e5)).bind fun z10 =>
     (idx n1.kids r7).bind fun e6 =>
     (j6 z10 e6).bind fun n4 =>
     (jm F n4).bind fun r8 =>
     (idx n1.tids r7).bind fun e7 =>
     (
      bif decide ((IntKind.i64.wrap ((n4.elems.length:Int) + (n4.kids.length:Int))) < 4) then
       (ku F p902 z10 n1.kind n1.elems n1.kids n1.seps (n1.tids.set r7.toNat r8) r7).bind fun r9 =>
       some (r9.2.1,r9.2.2.1,r9.2.2.2,r9.1)
       else
        some (n1.kids,n1.seps,(n1.tids.set r7.toNat r8),z10) : Option ((List Int) × (List DSpot) × (List Int) × (List (Int ⊕ DNode)))).bind fun z=>match z with
      | (z11,z12,z13,z14) =>
       (kH z14 x2).bind fun u2 =>
       some (jq z14 x2 (DNode.mk n1.kind n1.elems z11 z12 z13))) F (p907,p909)).bind fun z1 =>
 some z1
def kM (F:Nat) (p901:Int) (p906:List (Int ⊕ DNode)) (p908:DSpot) : Option ((List (Int ⊕ DNode)) × Int) :=
 (kg F p901 p906 p901 p908).bind fun r1 =>
 (
  (j6 r1 p901).bind fun n1 =>
   bif ((n1.kids.length:Int) == 1) then
    (kH (iZ r1 p901) p901).bind fun u1 =>
    (idx n1.kids 0).bind fun e2 =>
    some (e2,(jq (iZ r1 p901) p901 (DNode.mk 0 [] [] [] [])))
   else
    some (p901,(jq (iZ r1 p901) p901 n1)) : Option (Int × (List (Int ⊕ DNode)))).bind fun z=>match z with
  | (z3,z4) =>
   some (z4,z3)
end Go.Proofs.YtfbpiogbhkgieaaGreat
