/- Pure functions, written by walkgen.py out of Go functions that change what they are handed. Their conditions: none. -/
import Derived.Test.YtaoocidchclpnaaGreatNodeFY
import Derived.Test.YtaoocidchclpnaaGreatWrHFY
import Derived.Test.YtaoocidchclpnaaGreatPackLY
import Derived.Test.YtaoocidchclpnaaGreatCpFY
import Derived.Test.YtaoocidchclpnaaGreatMapY
import Derived.Test.YtaoocidchclpnaaGreatInsY
import Derived.Test.YtaoocidchclpnaaGreatRecY
import Derived.Test.YtaoocidchclpnaaGreatTreeOY
import Derived.Test.YtaoocidchclpnaaGreatAnyLY
namespace Go.Proofs.YtaoocidchclpnaaGreat
set_option linter.unusedVariables false
def jL (F:Nat) (p902:Int) (p907:List (Int ⊕ DNode)) (p909:Int) (p910:DElem) : Option ((List (Int ⊕ DNode))) :=
 (ql (σ:=(List (Int ⊕ DNode)) × Int) (ρ:=(List (Int ⊕ DNode))) (fun rf1 x=>match x with
  | (x1,x2) =>
   (kh x1 x2).bind fun n1 =>
    bif (n1.kind == 1) then
     (iter (σ:=(List DElem) × Int) (ρ:=(List DElem)) (fun x=>match x with
      | (x3,x4) =>
       bif decide (x4 < (n1.elems.length:Int)) then
        (
         (idx x3 x4).bind fun e1 =>
          (jf e1).bind fun r5 =>
          (jf p910).bind fun r6 =>
          bif (r5 == r6) then
           (idx x3 x4).bind fun e2 =>
           some (x3.set x4.toNat p910)
          else
           some x3:Option ((List DElem))).bind fun z3 =>
        some (.inl (z3,IntKind.i64.wrap (x4 + 1)))
        else
         some (.inr x3)) F (n1.elems,0)).bind fun z2 =>
     (tM n1 (DNode.mk n1.kind z2 n1.kids n1.seps n1.tids)).bind fun u1 =>
     some (jo (iT x1 x2) x2 (DNode.mk n1.kind z2 n1.kids n1.seps n1.tids))
    else
     (jf p910).bind fun r7 =>
     (mE F n1 r7).bind fun r8 =>
     (idx n1.kids r8).bind fun e3 =>
     (rf1 ((iT x1 x2),e3)).bind fun z4 =>
     (idx n1.kids r8).bind fun e4 =>
     (kh z4 e4).bind fun n2 =>
     (jl F n2).bind fun r9 =>
     (idx n1.tids r8).bind fun e5 =>
     (tM n1 (DNode.mk n1.kind n1.elems n1.kids n1.seps (n1.tids.set r8.toNat r9))).bind fun u2 =>
     some (jo z4 x2 (DNode.mk n1.kind n1.elems n1.kids n1.seps (n1.tids.set r8.toNat r9)))) F (p907,p909)).bind fun z1 =>
 some z1
def lJ (p901:Int) (p904:List DElem) (p908:List Int) (p912:List DSpot) (p916:List Int) : Option ((List Int) × (List DSpot) × (List Int) × (List DElem) × (List DElem) × (List Int) × (List DSpot) × (List Int) × Int × Int × Int × Int × Int) :=
 bif (p901 == 1) then
  (ja p904 4 (p904.length:Int)).bind fun s1 =>
  (jT 56 ([] : List DElem) s1).bind fun _ =>
  (ja p904 0 4).bind fun s2 =>
  (idx s1 0).bind fun e1 =>
  (jf e1).bind fun r2 =>
  some ([],[],[],s1,s2,p908,p912,p916,r2.key.pfs,r2.key.obj,r2.key.off,r2.made,1)
 else
  (ja p908 4 (p908.length:Int)).bind fun s3 =>
  (ja p912 4 (p912.length:Int)).bind fun s4 =>
  (ja p916 4 (p916.length:Int)).bind fun s5 =>
  (jT 8 ([] : List Int) s3).bind fun y2 =>
  (jT 32 ([] : List DSpot) s4).bind fun y3 =>
  (jT 8 ([] : List Int) s5).bind fun y4 =>
  (idx p912 3).bind fun e2 =>
  (ja p908 0 4).bind fun s6 =>
  (ja p912 0 3).bind fun s7 =>
  (ja p916 0 4).bind fun s8 =>
  some (s5,s4,s3,[],p904,s6,s7,s8,e2.key.pfs,e2.key.obj,e2.key.off,e2.made,2)
def j9 (F:Nat) (p902:Int) (p907:List (Int ⊕ DNode)) (p909:Int) (p912:List DElem) (p916:List Int) (p920:List DSpot) (p924:List Int) : Option ((List (Int ⊕ DNode)) × Int) :=
 (iter (σ:=Int) (ρ:=(Unit) ⊕ ((List (Int ⊕ DNode)) × Int)) (fun x1 =>
  bif decide (x1 < (p907.length:Int)) then
   (rC p907 x1).bind fun kd1 =>
   bif (kd1 == 0) then
    (kH p907 x1).bind fun u1 =>
    some (.inr (.inr ((jo p907 x1 (DNode.mk p909 p912 p916 p920 p924)),x1)))
   else
    some (.inl (IntKind.i64.wrap (x1 + 1)))
   else
    some (.inr (.inl ()))) F 0).bind fun z=>match z with
  | .inl _ =>
   (rY 104 (p907.length + 1)).bind fun u2 =>
   some ((p907 ++ [(Sum.inr (DNode.mk p909 p912 p916 p920 p924) : Int ⊕ DNode)]),IntKind.i64.wrap (((p907 ++ [(Sum.inr (DNode.mk p909 p912 p916 p920 p924) : Int ⊕ DNode)]).length:Int) - 1))
  | .inr q=>some q
def kv (F:Nat) (p902:Int) (p907:List (Int ⊕ DNode)) (p909:Int) (p910:DElem) : Option ((List (Int ⊕ DNode)) × Int × Int × Int × Int × Int × Bool) :=
 (ql (σ:=(List (Int ⊕ DNode)) × Int) (ρ:=(List (Int ⊕ DNode)) × Int × Int × Int × Int × Int × Bool) (fun rf1 x=>match x with
  | (x1,x2) =>
   (kh x1 x2).bind fun n1 =>
    (
     bif (n1.kind == 1) then
      (iter (σ:=Int) (ρ:=Int) (fun x3 =>
       (
        bif decide (x3 < (n1.elems.length:Int)) then
         (idx n1.elems x3).bind fun e1 =>
         (jf e1).bind fun r5 =>
         (jf p910).bind fun r6 =>
         (jp r5 r6).bind fun r7 =>
         some (decide (r7 < 0))
         else
          some false:Option (Bool)).bind fun z14 =>
        bif z14 then
         some (.inl (IntKind.i64.wrap (x3 + 1)))
        else
         some (.inr x3)) F 0).bind fun z13 =>
      (sw 56 n1.elems z13 p910).bind fun _ =>
      some ((js n1.elems z13.toNat p910),n1.kids,n1.seps,n1.tids,(iT x1 x2))
      else
       (jf p910).bind fun r8 =>
       (mE F n1 r8).bind fun r9 =>
       (idx n1.kids r9).bind fun e2 =>
       (rf1 ((iT x1 x2),e2)).bind fun z=>match z with
        | (z15,z16,z17,z18,z19,z20,z21) =>
         (idx n1.kids r9).bind fun e3 =>
         (kh z15 e3).bind fun n2 =>
         (jl F n2).bind fun r10 =>
         (idx n1.tids r9).bind fun e4 =>
         bif z21 then
          (sw 8 n1.kids (IntKind.i64.wrap (r9 + 1)) z20).bind fun _ =>
          (sw 32 n1.seps r9 (DSpot.mk (DKey.mk z16 z17 z18) z19)).bind fun _ =>
          (kh z15 z20).bind fun n3 =>
          (jl F n3).bind fun r11 =>
          (sw 8 (n1.tids.set r9.toNat r10) (IntKind.i64.wrap (r9 + 1)) r11).bind fun _ =>
          some (n1.elems,(js n1.kids (IntKind.i64.wrap (r9 + 1)).toNat z20),(js n1.seps r9.toNat (DSpot.mk (DKey.mk z16 z17 z18) z19)),(js (n1.tids.set r9.toNat r10) (IntKind.i64.wrap (r9 + 1)).toNat r11),z15)
         else
          some (n1.elems,n1.kids,n1.seps,(n1.tids.set r9.toNat r10),z15) : Option ((List DElem) × (List Int) × (List DSpot) × (List Int) × (List (Int ⊕ DNode)))).bind fun z=>match z with
     | (z8,z9,z10,z11,z12) =>
      bif decide ((IntKind.i64.wrap ((z8.length:Int) + (z9.length:Int)))≤8) then
       (kH z12 x2).bind fun u1 =>
       some ((jo z12 x2 (DNode.mk n1.kind z8 z9 z10 z11)),0,0,0,0,0,false)
      else
       (lJ n1.kind z8 z9 z10 z11).bind fun r12 =>
       (kH z12 x2).bind fun u2 =>
       (j9 F p902 (jo z12 x2 (DNode.mk n1.kind r12.2.2.2.2.1 r12.2.2.2.2.2.1 r12.2.2.2.2.2.2.1 r12.2.2.2.2.2.2.2.1)) r12.2.2.2.2.2.2.2.2.2.2.2.2 r12.2.2.2.1 r12.2.2.1 r12.2.1 r12.1).bind fun r21 =>
       some (r21.1,r12.2.2.2.2.2.2.2.2.1,r12.2.2.2.2.2.2.2.2.2.1,r12.2.2.2.2.2.2.2.2.2.2.1,r12.2.2.2.2.2.2.2.2.2.2.2.1,r21.2,true)) F (p907,p909)).bind fun z=>match z with
  | (z1,z2,z3,z4,z5,z6,z7) =>
   some (z1,z2,z3,z4,z5,z6,z7)
def kT (F:Nat) (p902:Int) (p907:List (Int ⊕ DNode)) (p909:DElem) : Option (Int × (List (Int ⊕ DNode))) :=
 (kv F p902 p907 p902 p909).bind fun r1 =>
 bif (!r1.2.2.2.2.2.2) then
  some (p902,r1.1)
 else
  (kh r1.1 p902).bind fun n1 =>
  (kh r1.1 r1.2.2.2.2.2.1).bind fun n2 =>
  (jl F n1).bind fun r2 =>
  (jl F n2).bind fun r3 =>
  (j9 F p902 r1.1 2 [] [p902,r1.2.2.2.2.2.1] [(DSpot.mk (DKey.mk r1.2.1 r1.2.2.1 r1.2.2.2.1) r1.2.2.2.2.1)] [r2,r3]).bind fun r8 =>
  some (r8.2,r8.1)
def mb (p901:Int) (p904:List DElem) (p908:List Int) (p912:List DSpot) (p916:List Int) (p918:Int) (p921:List DElem) (p925:List Int) (p929:List DSpot) (p933:List Int) (p935:DSpot) : Option ((List DSpot)) :=
 (jT 56 p904 p921).bind fun _ =>
 (
  bif (p901 == 2) then
   (jT 32 p912 [p935]).bind fun y2 =>
   (jT 32 (p912 ++ [p935]) p929).bind fun y3 =>
   some ((p912 ++ [p935]) ++ p929)
   else
    some p912:Option ((List DSpot))).bind fun z2 =>
 (jT 8 p908 p925).bind fun _ =>
 (jT 8 p916 p933).bind fun _ =>
 some z2
def kw (F:Nat) (p902:Int) (p907:List (Int ⊕ DNode)) (p909:Int) (p912:List DElem) (p916:List Int) (p920:List DSpot) (p924:List Int) (p926:Int) : Option ((List (Int ⊕ DNode)) × (List Int) × (List DSpot) × (List Int)) :=
 (
  bif (p926 == (IntKind.i64.wrap ((p916.length:Int) - 1))) then
   some (IntKind.i64.wrap (p926 - 1))
   else
    some p926:Option (Int)).bind fun z5 =>
 (idx p916 z5).bind fun e1 =>
 (idx p916 (IntKind.i64.wrap (z5 + 1))).bind fun e2 =>
 (kh p907 e1).bind fun n1 =>
 (kh (iT p907 e1) e2).bind fun n2 =>
 (idx p920 z5).bind fun e3 =>
 (mb n1.kind n1.elems n1.kids n1.seps n1.tids n2.kind n2.elems n2.kids n2.seps n2.tids e3).bind fun r9 =>
 (
  bif decide ((8:Int) < (IntKind.i64.wrap (((n1.elems ++ n2.elems).length:Int) + ((n1.kids ++ n2.kids).length:Int)))) then
   (lJ n1.kind (n1.elems ++ n2.elems) (n1.kids ++ n2.kids) r9 (n1.tids ++ n2.tids)).bind fun r10 =>
   (kH (iT (iT p907 e1) e2) e1).bind fun u1 =>
   (kH (jo (iT (iT p907 e1) e2) e1 (DNode.mk n1.kind r10.2.2.2.2.1 r10.2.2.2.2.2.1 r10.2.2.2.2.2.2.1 r10.2.2.2.2.2.2.2.1)) e2).bind fun u2 =>
   (idx p920 z5).bind fun e6 =>
   (jl F (DNode.mk r10.2.2.2.2.2.2.2.2.2.2.2.2 r10.2.2.2.1 r10.2.2.1 r10.2.1 r10.1)).bind fun r19 =>
   (idx p924 (IntKind.i64.wrap (z5 + 1))).bind fun e7 =>
   some (p916,(p920.set z5.toNat (DSpot.mk (DKey.mk r10.2.2.2.2.2.2.2.2.1 r10.2.2.2.2.2.2.2.2.2.1 r10.2.2.2.2.2.2.2.2.2.2.1) r10.2.2.2.2.2.2.2.2.2.2.2.1)),(p924.set ((IntKind.i64.wrap (z5 + 1)).toNat) r19),(jo (jo (iT (iT p907 e1) e2) e1 (DNode.mk n1.kind r10.2.2.2.2.1 r10.2.2.2.2.2.1 r10.2.2.2.2.2.2.1 r10.2.2.2.2.2.2.2.1)) e2 (DNode.mk r10.2.2.2.2.2.2.2.2.2.2.2.2 r10.2.2.2.1 r10.2.2.1 r10.2.1 r10.1)))
   else
    (kH (iT (iT p907 e1) e2) e1).bind fun u3 =>
    (kH (jo (iT (iT p907 e1) e2) e1 (DNode.mk n1.kind (n1.elems ++ n2.elems) (n1.kids ++ n2.kids) r9 (n1.tids ++ n2.tids))) e2).bind fun u4 =>
    (sY p916 (IntKind.i64.wrap (z5 + 1)) (IntKind.i64.wrap (z5 + 2))).bind fun _ =>
    (sY p920 z5 (IntKind.i64.wrap (z5 + 1))).bind fun _ =>
    (sY p924 (IntKind.i64.wrap (z5 + 1)) (IntKind.i64.wrap (z5 + 2))).bind fun _ =>
    some ((jX p916 (IntKind.i64.wrap (z5 + 1)).toNat (IntKind.i64.wrap (z5 + 2)).toNat),(jX p920 z5.toNat (IntKind.i64.wrap (z5 + 1)).toNat),(jX p924 (IntKind.i64.wrap (z5 + 1)).toNat (IntKind.i64.wrap (z5 + 2)).toNat),(jo (jo (iT (iT p907 e1) e2) e1 (DNode.mk n1.kind (n1.elems ++ n2.elems) (n1.kids ++ n2.kids) r9 (n1.tids ++ n2.tids))) e2 (DNode.mk 0 [] [] [] []))) : Option ((List Int) × (List DSpot) × (List Int) × (List (Int ⊕ DNode)))).bind fun z=>match z with
  | (z6,z7,z8,z9) =>
   (kh z9 e1).bind fun n7 =>
   (jl F n7).bind fun r24 =>
   (idx z8 z5).bind fun e10 =>
   some (z9,z6,z7,(z8.set z5.toNat r24))
def km (F:Nat) (p902:Int) (p907:List (Int ⊕ DNode)) (p909:Int) (p910:DSpot) : Option ((List (Int ⊕ DNode))) :=
 (ql (σ:=(List (Int ⊕ DNode)) × Int) (ρ:=(List (Int ⊕ DNode))) (fun rf1 x=>match x with
  | (x1,x2) =>
   (kh x1 x2).bind fun n1 =>
    bif (n1.kind == 1) then
     (
      (
       (iter (σ:=Int) (ρ:=(Unit) ⊕ Int) (fun x3 =>
        bif decide (x3 < (n1.elems.length:Int)) then
         (idx n1.elems x3).bind fun e1 =>
         (
          (jf e1).bind fun r5 =>
           some (r5 == p910) : Option (Bool)).bind fun z4 =>
         bif z4 then
          some (.inr (.inr x3))
         else
          some (.inl (IntKind.i64.wrap (x3 + 1)))
         else
          some (.inr (.inl ()))) F 0).bind fun z=>match z with
        | .inl _ =>
         some (-1)
        | .inr q=>some q:Option (Int)).bind fun z3 =>
       bif (z3 == (-1)) then
        some n1.elems
       else
        (iter (σ:=(List DElem) × Int × Int) (ρ:=(List DElem) × Int) (fun x=>match x with
         | (x4,x5,x6) =>
          bif decide (x6 < (x4.length:Int)) then
           (
            (idx x4 x6).bind fun e2 =>
             (
              (jf e2).bind fun r6 =>
               some (r6 == p910) : Option (Bool)).bind fun z9 =>
             bif (!z9) then
              (idx x4 x5).bind fun e3 =>
              some ((x4.set x5.toNat e2),IntKind.i64.wrap (x5 + 1))
             else
              some (x4,x5) : Option ((List DElem) × Int)).bind fun z=>match z with
            | (z7,z8) =>
             some (.inl (z7,z8,IntKind.i64.wrap (x6 + 1)))
           else
            some (.inr (x4,x5))) F (n1.elems,z3,IntKind.i64.wrap (z3 + 1))).bind fun z=>match z with
         | (z5,z6) =>
          (ja z5 z6 (z5.length:Int)).bind fun s2 =>
          (ja (over z5 z6.toNat (List.replicate s2.length ((DElem.mk (DKey.mk 0 0 0) 0 0 (ByteArray.mk #[])) : DElem))) 0 z6).bind fun s3 =>
          some s3:Option ((List DElem))).bind fun z2 =>
     (kH (iT x1 x2) x2).bind fun u1 =>
     some (jo (iT x1 x2) x2 (DNode.mk n1.kind z2 n1.kids n1.seps n1.tids))
    else
     (mE F n1 p910).bind fun r7 =>
     (idx n1.kids r7).bind fun e5 =>
     (rf1 ((iT x1 x2),e5)).bind fun z10 =>
     (idx n1.kids r7).bind fun e6 =>
     (kh z10 e6).bind fun n4 =>
     (jl F n4).bind fun r8 =>
     (idx n1.tids r7).bind fun e7 =>
     (
      bif decide ((IntKind.i64.wrap ((n4.elems.length:Int) + (n4.kids.length:Int))) < 4) then
       (kw F p902 z10 n1.kind n1.elems n1.kids n1.seps (n1.tids.set r7.toNat r8) r7).bind fun r9 =>
       some (r9.2.1,r9.2.2.1,r9.2.2.2,r9.1)
       else
        some (n1.kids,n1.seps,(n1.tids.set r7.toNat r8),z10) : Option ((List Int) × (List DSpot) × (List Int) × (List (Int ⊕ DNode)))).bind fun z=>match z with
      | (z11,z12,z13,z14) =>
       (kH z14 x2).bind fun u2 =>
       some (jo z14 x2 (DNode.mk n1.kind n1.elems z11 z12 z13))) F (p907,p909)).bind fun z1 =>
 some z1
def mw (F:Nat) (p901:Int) (p906:List (Int ⊕ DNode)) (p908:DSpot) : Option ((List (Int ⊕ DNode)) × Int) :=
 (km F p901 p906 p901 p908).bind fun r1 =>
 (
  (kh r1 p901).bind fun n1 =>
   bif ((n1.kids.length:Int) == 1) then
    (kH (iT r1 p901) p901).bind fun u1 =>
    (idx n1.kids 0).bind fun e2 =>
    some (e2,(jo (iT r1 p901) p901 (DNode.mk 0 [] [] [] [])))
   else
    some (p901,(jo (iT r1 p901) p901 n1)) : Option (Int × (List (Int ⊕ DNode)))).bind fun z=>match z with
  | (z3,z4) =>
   some (z4,z3)
end Go.Proofs.YtaoocidchclpnaaGreat
