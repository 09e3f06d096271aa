/- Pure functions of group WrC. Conditions: none. -/
import Derived.Test.YtcmkdoahkncakaaWrHFH
import Derived.Test.YtcmkdoahkncakaaTreeOH
import Derived.Test.YtcmkdoahkncakaaInsH
import Derived.Test.YtcmkdoahkncakaaRecH
import Derived.Test.YtcmkdoahkncakaaMapH
namespace Go.Proofs.Ytcmkdoahkncakaa
set_option linter.unusedVariables false
def zr (F:Nat) (p0:DTree) (p1:DKey) (p2:Int) : Option (DTree × Int) :=
 (yC F p0).bind fun r1 =>
 bif (r1 != 0) then
  some ((DTree.mk 0 []),r1)
 else
  (yx p1).bind fun r2 =>
  bif (r2 != 0) then
   some ((DTree.mk 0 []),r2)
  else
   (yY F p0 p2).bind fun r3 =>
   bif r3 then
    some ((DTree.mk 0 []),9)
   else
    (zt F p0 p1).bind fun r4 =>
    bif (!r4.2) then
     some ((DTree.mk 0 []),4)
    else
     bif (r4.1.made == p2) then
      (yS F p0).bind fun r5 =>
      (wj r4.1).bind fun r7 =>
      (
       (Ae (σ:=(List (Int ⊕ DNode)) × Int) (ρ:=(List (Int ⊕ DNode))) (fun rf1 x=>match x with
        | (x1,x2) =>
         (xp x1 x2).bind fun n1 =>
          bif (n1.kind == 1) then
           (
            (
             (iter (σ:=Int) (ρ:=(Unit) ⊕ Int) (fun x3 =>
              bif decide (x3 < (n1.elems.length:Int)) then
               (idx n1.elems x3).bind fun e1 =>
               (
                (wj e1).bind fun r12 =>
                 some (r12 == r7) : Option (Bool)).bind fun z6 =>
               bif z6 then
                some (.inr (.inr x3))
               else
                some (.inl (IntKind.i64.wrap (x3 + 1)))
               else
                some (.inr (.inl ()))) F 0).bind fun z=>match z with
              | .inl _ =>
               some (-1)
              | .inr q=>some q:Option (Int)).bind fun z5 =>
             bif (z5 == (-1)) then
              some n1.elems
             else
              (iter (σ:=(List DElem) × Int × Int) (ρ:=(List DElem) × Int) (fun x=>match x with
               | (x4,x5,x6) =>
                bif decide (x6 < (x4.length:Int)) then
                 (
                  (idx x4 x6).bind fun e2 =>
                   (
                    (wj e2).bind fun r13 =>
                     some (r13 == r7) : Option (Bool)).bind fun z11 =>
                   bif (!z11) then
                    (idx x4 x5).bind fun e3 =>
                    some ((x4.set x5.toNat e2),IntKind.i64.wrap (x5 + 1))
                   else
                    some (x4,x5) : Option ((List DElem) × Int)).bind fun z=>match z with
                  | (z9,z10) =>
                   some (.inl (z9,z10,IntKind.i64.wrap (x6 + 1)))
                 else
                  some (.inr (x4,x5))) F (n1.elems,z5,IntKind.i64.wrap (z5 + 1))).bind fun z=>match z with
               | (z7,z8) =>
                (wn z7 z8 (z7.length:Int)).bind fun s2 =>
                (wn (over z7 z8.toNat (List.replicate s2.length ((DElem.mk (DKey.mk 0 0 0) 0 0 (ByteArray.mk #[])) : DElem))) 0 z8).bind fun s3 =>
                some s3:Option ((List DElem))).bind fun z4 =>
           (xO (wt x1 x2) x2).bind fun u1 =>
           some (v0 (wt x1 x2) x2 (DNode.mk n1.kind z4 n1.kids n1.seps n1.tids))
          else
           (yd F n1 r7).bind fun r14 =>
           (idx n1.kids r14).bind fun e5 =>
           (rf1 ((wt x1 x2),e5)).bind fun z12 =>
           (idx n1.kids r14).bind fun e6 =>
           (xp z12 e6).bind fun n4 =>
           (wy F n4).bind fun r15 =>
           (idx n1.tids r14).bind fun e7 =>
           (
            bif decide ((IntKind.i64.wrap ((n4.elems.length:Int) + (n4.kids.length:Int))) < 4) then
             (
              (
               bif (r14 == (IntKind.i64.wrap ((n1.kids.length:Int) - 1))) then
                some (IntKind.i64.wrap (r14 - 1))
                else
                 some r14:Option (Int)).bind fun z21 =>
               (idx n1.kids z21).bind fun e8 =>
               (idx n1.kids (IntKind.i64.wrap (z21 + 1))).bind fun e9 =>
               (xp z12 e8).bind fun n7 =>
               (xp (wt z12 e8) e9).bind fun n8 =>
               (idx n1.seps z21).bind fun e10 =>
               (
                (xT 56 n7.elems n8.elems).bind fun _ =>
                 (
                  bif (n7.kind == 2) then
                   (xT 32 n7.seps [e10]).bind fun y4 =>
                   (xT 32 (n7.seps ++ [e10]) n8.seps).bind fun y5 =>
                   some ((n7.seps ++ [e10]) ++ n8.seps)
                   else
                    some n7.seps:Option ((List DSpot))).bind fun z23 =>
                 (xT 8 n7.kids n8.kids).bind fun _ =>
                 (xT 8 n7.tids n8.tids).bind fun _ =>
                 some z23:Option ((List DSpot))).bind fun z22 =>
               (
                bif decide ((8:Int) < (IntKind.i64.wrap (((n7.elems ++ n8.elems).length:Int) + ((n7.kids ++ n8.kids).length:Int)))) then
                 (
                  bif (n7.kind == 1) then
                   (wn (n7.elems ++ n8.elems) 4 ((n7.elems ++ n8.elems).length:Int)).bind fun s4 =>
                   (xT 56 ([] : List DElem) s4).bind fun _ =>
                   (wn (n7.elems ++ n8.elems) 0 4).bind fun s5 =>
                   (idx s4 0).bind fun e11 =>
                   (wj e11).bind fun r21 =>
                   some ([],[],[],s4,s5,(n7.kids ++ n8.kids),z22,(n7.tids ++ n8.tids),r21.key.pfs,r21.key.obj,r21.key.off,r21.made,1)
                   else
                    (wn (n7.kids ++ n8.kids) 4 ((n7.kids ++ n8.kids).length:Int)).bind fun s6 =>
                    (wn z22 4 (z22.length:Int)).bind fun s7 =>
                    (wn (n7.tids ++ n8.tids) 4 ((n7.tids ++ n8.tids).length:Int)).bind fun s8 =>
                    (xT 8 ([] : List Int) s6).bind fun y23 =>
                    (xT 32 ([] : List DSpot) s7).bind fun y24 =>
                    (xT 8 ([] : List Int) s8).bind fun y25 =>
                    (idx z22 3).bind fun e12 =>
                    (wn (n7.kids ++ n8.kids) 0 4).bind fun s9 =>
                    (wn z22 0 3).bind fun s10 =>
                    (wn (n7.tids ++ n8.tids) 0 4).bind fun s11 =>
                    some (s8,s7,s6,[],(n7.elems ++ n8.elems),s9,s10,s11,e12.key.pfs,e12.key.obj,e12.key.off,e12.made,2) : Option ((List Int) × (List DSpot) × (List Int) × (List DElem) × (List DElem) × (List Int) × (List DSpot) × (List Int) × Int × Int × Int × Int × Int)).bind fun z=>match z with
                  | (z28,z29,z30,z31,z32,z33,z34,z35,z36,z37,z38,z39,z40) =>
                   (xO (wt z12 e8) e8).bind fun u2 =>
                   (xO (v0 (wt z12 e8) e8 (DNode.mk n7.kind z32 z33 z34 z35)) e9).bind fun u3 =>
                   (idx n1.seps z21).bind fun e15 =>
                   (wy F (DNode.mk z40 z31 z30 z29 z28)).bind fun r29 =>
                   (idx (n1.tids.set r14.toNat r15) (IntKind.i64.wrap (z21 + 1))).bind fun e16 =>
                   some (n1.kids,(n1.seps.set z21.toNat (DSpot.mk (DKey.mk z36 z37 z38) z39)),((n1.tids.set r14.toNat r15).set ((IntKind.i64.wrap (z21 + 1)).toNat) r29),(v0 (v0 (wt z12 e8) e8 (DNode.mk n7.kind z32 z33 z34 z35)) e9 (DNode.mk z40 z31 z30 z29 z28)))
                 else
                  (xO (wt z12 e8) e8).bind fun u4 =>
                  (xO (v0 (wt z12 e8) e8 (DNode.mk n7.kind (n7.elems ++ n8.elems) (n7.kids ++ n8.kids) z22 (n7.tids ++ n8.tids))) e9).bind fun u5 =>
                  (CG n1.kids (IntKind.i64.wrap (z21 + 1)) (IntKind.i64.wrap (z21 + 2))).bind fun _ =>
                  (CG n1.seps z21 (IntKind.i64.wrap (z21 + 1))).bind fun _ =>
                  (CG (n1.tids.set r14.toNat r15) (IntKind.i64.wrap (z21 + 1)) (IntKind.i64.wrap (z21 + 2))).bind fun _ =>
                  some ((xf n1.kids (IntKind.i64.wrap (z21 + 1)).toNat (IntKind.i64.wrap (z21 + 2)).toNat),(xf n1.seps z21.toNat (IntKind.i64.wrap (z21 + 1)).toNat),(xf (n1.tids.set r14.toNat r15) (IntKind.i64.wrap (z21 + 1)).toNat (IntKind.i64.wrap (z21 + 2)).toNat),(v0 (v0 (wt z12 e8) e8 (DNode.mk n7.kind (n7.elems ++ n8.elems) (n7.kids ++ n8.kids) z22 (n7.tids ++ n8.tids))) e9 (DNode.mk 0 [] [] [] []))) : Option ((List Int) × (List DSpot) × (List Int) × (List (Int ⊕ DNode)))).bind fun z=>match z with
                | (z24,z25,z26,z27) =>
                 (xp z27 e8).bind fun n15 =>
                 (wy F n15).bind fun r34 =>
                 (idx z26 z21).bind fun e19 =>
                 some (z24,z25,(z26.set z21.toNat r34),z27) : Option ((List Int) × (List DSpot) × (List Int) × (List (Int ⊕ DNode)))).bind fun z=>match z with
              | (z17,z18,z19,z20) =>
               some (z17,z18,z19,z20)
             else
              some (n1.kids,n1.seps,(n1.tids.set r14.toNat r15),z12) : Option ((List Int) × (List DSpot) × (List Int) × (List (Int ⊕ DNode)))).bind fun z=>match z with
            | (z13,z14,z15,z16) =>
             (xO z16 x2).bind fun u6 =>
             some (v0 z16 x2 (DNode.mk n1.kind n1.elems z13 z14 z15))) F ((r5.nodes.map Sum.inr),r5.root)).bind fun q2 =>
        (
         (xp q2 r5.root).bind fun n17 =>
          bif ((n17.kids.length:Int) == 1) then
           (xO (wt q2 r5.root) r5.root).bind fun u7 =>
           (idx n17.kids 0).bind fun e22 =>
           some (e22,(v0 (wt q2 r5.root) r5.root (DNode.mk 0 [] [] [] [])))
          else
           some (r5.root,(v0 (wt q2 r5.root) r5.root n17)) : Option (Int × (List (Int ⊕ DNode)))).bind fun z=>match z with
         | (z41,z42) =>
          some (z42,z41) : Option ((List (Int ⊕ DNode)) × Int)).bind fun z=>match z with
       | (z1,z2) =>
        (Bh z1).bind fun l1 =>
        some ((DTree.mk z2 l1),0)
     else
      (yS F p0).bind fun r43 =>
      (Ae (σ:=(List (Int ⊕ DNode)) × Int) (ρ:=(List (Int ⊕ DNode))) (fun rf2 x=>match x with
       | (x7,x8) =>
        (xp x7 x8).bind fun n19 =>
         bif (n19.kind == 1) then
          (iter (σ:=(List DElem) × Int) (ρ:=(List DElem)) (fun x=>match x with
           | (x9,x10) =>
            bif decide (x10 < (n19.elems.length:Int)) then
             (
              (idx x9 x10).bind fun e23 =>
               (wj e23).bind fun r49 =>
               (wj (DElem.mk r4.1.key r4.1.made p2 r4.1.val)).bind fun r50 =>
               bif (r49 == r50) then
                (idx x9 x10).bind fun e24 =>
                some (x9.set x10.toNat (DElem.mk r4.1.key r4.1.made p2 r4.1.val))
               else
                some x9:Option ((List DElem))).bind fun z45 =>
             some (.inl (z45,IntKind.i64.wrap (x10 + 1)))
             else
              some (.inr x9)) F (n19.elems,0)).bind fun z44 =>
          (BF n19 (DNode.mk n19.kind z44 n19.kids n19.seps n19.tids)).bind fun u8 =>
          some (v0 (wt x7 x8) x8 (DNode.mk n19.kind z44 n19.kids n19.seps n19.tids))
         else
          (wj (DElem.mk r4.1.key r4.1.made p2 r4.1.val)).bind fun r51 =>
          (yd F n19 r51).bind fun r52 =>
          (idx n19.kids r52).bind fun e25 =>
          (rf2 ((wt x7 x8),e25)).bind fun z46 =>
          (idx n19.kids r52).bind fun e26 =>
          (xp z46 e26).bind fun n20 =>
          (wy F n20).bind fun r53 =>
          (idx n19.tids r52).bind fun e27 =>
          (BF n19 (DNode.mk n19.kind n19.elems n19.kids n19.seps (n19.tids.set r52.toNat r53))).bind fun u9 =>
          some (v0 z46 x8 (DNode.mk n19.kind n19.elems n19.kids n19.seps (n19.tids.set r52.toNat r53)))) F ((r43.nodes.map Sum.inr),r43.root)).bind fun q11 =>
      (Bh q11).bind fun l2 =>
      some ((DTree.mk r43.root l2),0)
end Go.Proofs.Ytcmkdoahkncakaa
