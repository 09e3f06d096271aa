/- Pure functions, written by walkgen.py out of the Go functions of group Shr. Their conditions: none. -/
import Derived.Test.YtcmkdoahkncakaaFindSFG
import Derived.Test.YtcmkdoahkncakaaCpFG
import Derived.Test.YtcmkdoahkncakaaTreeOG
import Derived.Test.YtcmkdoahkncakaaInsG
import Derived.Test.YtcmkdoahkncakaaRecG
import Derived.Test.YtcmkdoahkncakaaMapG
namespace Go.Proofs.Ytcmkdoahkncakaa
set_option linter.unusedVariables false
def ut (F:Nat) (p0:DTree) (p1:DSpot) : Option (DTree × Int) :=
 (ww F p0 p1).bind fun r1 =>
 bif (r1.2 != 0) then
  some ((DTree.mk 0 []),r1.2)
 else
  (vS F p0).bind fun r2 =>
  (
   (xC (σ:=(List (Int ⊕ DNode)) × Int) (ρ:=(List (Int ⊕ DNode))) (fun rf1 x=>match x with
    | (x1,x2) =>
     (uh x1 x2).bind fun n1 =>
      bif (n1.kind == 1) then
       (
        (
         (iter (σ:=Int) (ρ:=(Unit) ⊕ Int) (fun x3 =>
          bif decide (x3 < (n1.elems.length:Int)) then
           (idx n1.elems x3).bind fun e1 =>
           (
            (sV e1).bind fun r8 =>
             some (r8 == p1) : Option (Bool)).bind fun z6 =>
           bif z6 then
            some (.inr (.inr x3))
           else
            some (.inl (IntKind.i64.wrap (x3 + 1)))
           else
            some (.inr (.inl ()))) F 0).bind fun z=>match z with
          | .inl _ =>
           some (-1)
          | .inr q=>some q:Option (Int)).bind fun z5 =>
         bif (z5 == (-1)) then
          some n1.elems
         else
          (iter (σ:=(List DElem) × Int × Int) (ρ:=(List DElem) × Int) (fun x=>match x with
           | (x4,x5,x6) =>
            bif decide (x6 < (x4.length:Int)) then
             (
              (idx x4 x6).bind fun e2 =>
               (
                (sV e2).bind fun r9 =>
                 some (r9 == p1) : Option (Bool)).bind fun z11 =>
               bif (!z11) then
                (idx x4 x5).bind fun e3 =>
                some ((x4.set x5.toNat e2),IntKind.i64.wrap (x5 + 1))
               else
                some (x4,x5) : Option ((List DElem) × Int)).bind fun z=>match z with
              | (z9,z10) =>
               some (.inl (z9,z10,IntKind.i64.wrap (x6 + 1)))
             else
              some (.inr (x4,x5))) F (n1.elems,z5,IntKind.i64.wrap (z5 + 1))).bind fun z=>match z with
           | (z7,z8) =>
            (sL z7 z8 (z7.length:Int)).bind fun s2 =>
            (sL (over z7 z8.toNat (List.replicate s2.length ((DElem.mk (DKey.mk 0 0 0) 0 0 (ByteArray.mk #[])) : DElem))) 0 z8).bind fun s3 =>
            some s3:Option ((List DElem))).bind fun z4 =>
       (un (sZ x1 x2) x2).bind fun u1 =>
       some (sE (sZ x1 x2) x2 (DNode.mk n1.kind z4 n1.kids n1.seps n1.tids))
      else
       (vK F n1 p1).bind fun r10 =>
       (idx n1.kids r10).bind fun e5 =>
       (rf1 ((sZ x1 x2),e5)).bind fun z12 =>
       (idx n1.kids r10).bind fun e6 =>
       (uh z12 e6).bind fun n4 =>
       (tj F n4).bind fun r11 =>
       (idx n1.tids r10).bind fun e7 =>
       (
        bif decide ((IntKind.i64.wrap ((n4.elems.length:Int) + (n4.kids.length:Int))) < 4) then
         (
          (
           bif (r10 == (IntKind.i64.wrap ((n1.kids.length:Int) - 1))) then
            some (IntKind.i64.wrap (r10 - 1))
            else
             some r10:Option (Int)).bind fun z21 =>
           (idx n1.kids z21).bind fun e8 =>
           (idx n1.kids (IntKind.i64.wrap (z21 + 1))).bind fun e9 =>
           (uh z12 e8).bind fun n7 =>
           (uh (sZ z12 e8) e9).bind fun n8 =>
           (idx n1.seps z21).bind fun e10 =>
           (
            (uE 56 n7.elems n8.elems).bind fun _ =>
             (
              bif (n7.kind == 2) then
               (uE 32 n7.seps [e10]).bind fun y4 =>
               (uE 32 (n7.seps ++ [e10]) n8.seps).bind fun y5 =>
               some ((n7.seps ++ [e10]) ++ n8.seps)
               else
                some n7.seps:Option ((List DSpot))).bind fun z23 =>
             (uE 8 n7.kids n8.kids).bind fun _ =>
             (uE 8 n7.tids n8.tids).bind fun _ =>
             some z23:Option ((List DSpot))).bind fun z22 =>
           (
            bif decide ((8:Int) < (IntKind.i64.wrap (((n7.elems ++ n8.elems).length:Int) + ((n7.kids ++ n8.kids).length:Int)))) then
             (
              bif (n7.kind == 1) then
               (sL (n7.elems ++ n8.elems) 4 ((n7.elems ++ n8.elems).length:Int)).bind fun s4 =>
               (uE 56 ([] : List DElem) s4).bind fun _ =>
               (sL (n7.elems ++ n8.elems) 0 4).bind fun s5 =>
               (idx s4 0).bind fun e11 =>
               (sV e11).bind fun r17 =>
               some ([],[],[],s4,s5,(n7.kids ++ n8.kids),z22,(n7.tids ++ n8.tids),r17.key.pfs,r17.key.obj,r17.key.off,r17.made,1)
               else
                (sL (n7.kids ++ n8.kids) 4 ((n7.kids ++ n8.kids).length:Int)).bind fun s6 =>
                (sL z22 4 (z22.length:Int)).bind fun s7 =>
                (sL (n7.tids ++ n8.tids) 4 ((n7.tids ++ n8.tids).length:Int)).bind fun s8 =>
                (uE 8 ([] : List Int) s6).bind fun y23 =>
                (uE 32 ([] : List DSpot) s7).bind fun y24 =>
                (uE 8 ([] : List Int) s8).bind fun y25 =>
                (idx z22 3).bind fun e12 =>
                (sL (n7.kids ++ n8.kids) 0 4).bind fun s9 =>
                (sL z22 0 3).bind fun s10 =>
                (sL (n7.tids ++ n8.tids) 0 4).bind fun s11 =>
                some (s8,s7,s6,[],(n7.elems ++ n8.elems),s9,s10,s11,e12.key.pfs,e12.key.obj,e12.key.off,e12.made,2) : Option ((List Int) × (List DSpot) × (List Int) × (List DElem) × (List DElem) × (List Int) × (List DSpot) × (List Int) × Int × Int × Int × Int × Int)).bind fun z=>match z with
              | (z28,z29,z30,z31,z32,z33,z34,z35,z36,z37,z38,z39,z40) =>
               (un (sZ z12 e8) e8).bind fun u2 =>
               (un (sE (sZ z12 e8) e8 (DNode.mk n7.kind z32 z33 z34 z35)) e9).bind fun u3 =>
               (idx n1.seps z21).bind fun e15 =>
               (tj F (DNode.mk z40 z31 z30 z29 z28)).bind fun r25 =>
               (idx (n1.tids.set r10.toNat r11) (IntKind.i64.wrap (z21 + 1))).bind fun e16 =>
               some (n1.kids,(n1.seps.set z21.toNat (DSpot.mk (DKey.mk z36 z37 z38) z39)),((n1.tids.set r10.toNat r11).set ((IntKind.i64.wrap (z21 + 1)).toNat) r25),(sE (sE (sZ z12 e8) e8 (DNode.mk n7.kind z32 z33 z34 z35)) e9 (DNode.mk z40 z31 z30 z29 z28)))
             else
              (un (sZ z12 e8) e8).bind fun u4 =>
              (un (sE (sZ z12 e8) e8 (DNode.mk n7.kind (n7.elems ++ n8.elems) (n7.kids ++ n8.kids) z22 (n7.tids ++ n8.tids))) e9).bind fun u5 =>
              (ze n1.kids (IntKind.i64.wrap (z21 + 1)) (IntKind.i64.wrap (z21 + 2))).bind fun _ =>
              (ze n1.seps z21 (IntKind.i64.wrap (z21 + 1))).bind fun _ =>
              (ze (n1.tids.set r10.toNat r11) (IntKind.i64.wrap (z21 + 1)) (IntKind.i64.wrap (z21 + 2))).bind fun _ =>
              some ((tH n1.kids (IntKind.i64.wrap (z21 + 1)).toNat (IntKind.i64.wrap (z21 + 2)).toNat),(tH n1.seps z21.toNat (IntKind.i64.wrap (z21 + 1)).toNat),(tH (n1.tids.set r10.toNat r11) (IntKind.i64.wrap (z21 + 1)).toNat (IntKind.i64.wrap (z21 + 2)).toNat),(sE (sE (sZ z12 e8) e8 (DNode.mk n7.kind (n7.elems ++ n8.elems) (n7.kids ++ n8.kids) z22 (n7.tids ++ n8.tids))) e9 (DNode.mk 0 [] [] [] []))) : Option ((List Int) × (List DSpot) × (List Int) × (List (Int ⊕ DNode)))).bind fun z=>match z with
            | (z24,z25,z26,z27) =>
             (uh z27 e8).bind fun n15 =>
             (tj F n15).bind fun r30 =>
             (idx z26 z21).bind fun e19 =>
             some (z24,z25,(z26.set z21.toNat r30),z27) : Option ((List Int) × (List DSpot) × (List Int) × (List (Int ⊕ DNode)))).bind fun z=>match z with
          | (z17,z18,z19,z20) =>
           some (z17,z18,z19,z20)
         else
          some (n1.kids,n1.seps,(n1.tids.set r10.toNat r11),z12) : Option ((List Int) × (List DSpot) × (List Int) × (List (Int ⊕ DNode)))).bind fun z=>match z with
        | (z13,z14,z15,z16) =>
         (un z16 x2).bind fun u6 =>
         some (sE z16 x2 (DNode.mk n1.kind n1.elems z13 z14 z15))) F ((r2.nodes.map Sum.inr),r2.root)).bind fun q2 =>
    (
     (uh q2 r2.root).bind fun n17 =>
      bif ((n17.kids.length:Int) == 1) then
       (un (sZ q2 r2.root) r2.root).bind fun u7 =>
       (idx n17.kids 0).bind fun e22 =>
       some (e22,(sE (sZ q2 r2.root) r2.root (DNode.mk 0 [] [] [] [])))
      else
       some (r2.root,(sE (sZ q2 r2.root) r2.root n17)) : Option (Int × (List (Int ⊕ DNode)))).bind fun z=>match z with
     | (z41,z42) =>
      some (z42,z41) : Option ((List (Int ⊕ DNode)) × Int)).bind fun z=>match z with
   | (z1,z2) =>
    (ym z1).bind fun l1 =>
    some ((DTree.mk z2 l1),0)
end Go.Proofs.Ytcmkdoahkncakaa
