/- Pure functions of group WrP. Conditions: none. -/
import Derived.Test.YtcmkdoahkncakaaWrHFH
import Derived.Test.YtcmkdoahkncakaaTreeOH
import Derived.Test.YtcmkdoahkncakaaInsH
import Derived.Test.YtcmkdoahkncakaaRecH
import Derived.Test.YtcmkdoahkncakaaMapH
namespace Go.Proofs.Ytcmkdoahkncakaa
set_option linter.unusedVariables false
def yA (F:Nat) (p0:DTree) (p1:DKey) (p2:ByteArray) (p3:Int) : Option (DTree × Int) :=
 (yC F p0).bind fun r1 =>
 bif (r1 != 0) then
  some ((DTree.mk 0 []),r1)
 else
  (xM (DElem.mk p1 p3 0 p2)).bind fun r2 =>
  bif (r2 != 0) then
   some ((DTree.mk 0 []),r2)
  else
   (yY F p0 p3).bind fun r3 =>
   bif r3 then
    some ((DTree.mk 0 []),9)
   else
    (zt F p0 p1).bind fun r4 =>
    (yS F p0).bind fun r5 =>
    bif (r4.2 && (r4.1.made == p3)) then
     (Ae (σ:=(List (Int ⊕ DNode)) × Int) (ρ:=(List (Int ⊕ DNode))) (fun rf1 x=>match x with
      | (x1,x2) =>
       (xp x1 x2).bind fun n1 =>
        bif (n1.kind == 1) then
         (iter (σ:=(List DElem) × Int) (ρ:=(List DElem)) (fun x=>match x with
          | (x3,x4) =>
           bif decide (x4 < (n1.elems.length:Int)) then
            (
             (idx x3 x4).bind fun e1 =>
              (wj e1).bind fun r11 =>
              (wj (DElem.mk p1 p3 0 p2)).bind fun r12 =>
              bif (r11 == r12) then
               (idx x3 x4).bind fun e2 =>
               some (x3.set x4.toNat (DElem.mk p1 p3 0 p2))
              else
               some x3:Option ((List DElem))).bind fun z3 =>
            some (.inl (z3,IntKind.i64.wrap (x4 + 1)))
            else
             some (.inr x3)) F (n1.elems,0)).bind fun z2 =>
         (BF n1 (DNode.mk n1.kind z2 n1.kids n1.seps n1.tids)).bind fun u1 =>
         some (v0 (wt x1 x2) x2 (DNode.mk n1.kind z2 n1.kids n1.seps n1.tids))
        else
         (wj (DElem.mk p1 p3 0 p2)).bind fun r13 =>
         (yd F n1 r13).bind fun r14 =>
         (idx n1.kids r14).bind fun e3 =>
         (rf1 ((wt x1 x2),e3)).bind fun z4 =>
         (idx n1.kids r14).bind fun e4 =>
         (xp z4 e4).bind fun n2 =>
         (wy F n2).bind fun r15 =>
         (idx n1.tids r14).bind fun e5 =>
         (BF n1 (DNode.mk n1.kind n1.elems n1.kids n1.seps (n1.tids.set r14.toNat r15))).bind fun u2 =>
         some (v0 z4 x2 (DNode.mk n1.kind n1.elems n1.kids n1.seps (n1.tids.set r14.toNat r15)))) F ((r5.nodes.map Sum.inr),r5.root)).bind fun q1 =>
     (Bh q1).bind fun l1 =>
     some ((DTree.mk r5.root l1),0)
    else
     (zI F p0).bind fun r16 =>
     bif r16 then
      some ((DTree.mk 0 []),8)
     else
      (
       bif r4.2 then
        (Ae (σ:=(List (Int ⊕ DNode)) × Int) (ρ:=(List (Int ⊕ DNode))) (fun rf2 x=>match x with
         | (x5,x6) =>
          (xp x5 x6).bind fun n3 =>
           bif (n3.kind == 1) then
            (iter (σ:=(List DElem) × Int) (ρ:=(List DElem)) (fun x=>match x with
             | (x7,x8) =>
              bif decide (x8 < (n3.elems.length:Int)) then
               (
                (idx x7 x8).bind fun e6 =>
                 (wj e6).bind fun r21 =>
                 (wj (DElem.mk r4.1.key r4.1.made p3 r4.1.val)).bind fun r22 =>
                 bif (r21 == r22) then
                  (idx x7 x8).bind fun e7 =>
                  some (x7.set x8.toNat (DElem.mk r4.1.key r4.1.made p3 r4.1.val))
                 else
                  some x7:Option ((List DElem))).bind fun z8 =>
               some (.inl (z8,IntKind.i64.wrap (x8 + 1)))
               else
                some (.inr x7)) F (n3.elems,0)).bind fun z7 =>
            (BF n3 (DNode.mk n3.kind z7 n3.kids n3.seps n3.tids)).bind fun u3 =>
            some (v0 (wt x5 x6) x6 (DNode.mk n3.kind z7 n3.kids n3.seps n3.tids))
           else
            (wj (DElem.mk r4.1.key r4.1.made p3 r4.1.val)).bind fun r23 =>
            (yd F n3 r23).bind fun r24 =>
            (idx n3.kids r24).bind fun e8 =>
            (rf2 ((wt x5 x6),e8)).bind fun z9 =>
            (idx n3.kids r24).bind fun e9 =>
            (xp z9 e9).bind fun n4 =>
            (wy F n4).bind fun r25 =>
            (idx n3.tids r24).bind fun e10 =>
            (BF n3 (DNode.mk n3.kind n3.elems n3.kids n3.seps (n3.tids.set r24.toNat r25))).bind fun u4 =>
            some (v0 z9 x6 (DNode.mk n3.kind n3.elems n3.kids n3.seps (n3.tids.set r24.toNat r25)))) F ((r5.nodes.map Sum.inr),r5.root)).bind fun q2 =>
        some q2
        else
         some (r5.nodes.map Sum.inr) : Option ((List (Int ⊕ DNode)))).bind fun z5 =>
      (
       (Ae (σ:=(List (Int ⊕ DNode)) × Int) (ρ:=(List (Int ⊕ DNode)) × Int × Int × Int × Int × Int × Bool) (fun rf6 x=>match x with
        | (x21,x22) =>
         (xp x21 x22).bind fun n35 =>
          (
           bif (n35.kind == 1) then
            (iter (σ:=Int) (ρ:=Int) (fun x23 =>
             (
              bif decide (x23 < (n35.elems.length:Int)) then
               (idx n35.elems x23).bind fun e38 =>
               (wj e38).bind fun r90 =>
               (wj (DElem.mk p1 p3 0 p2)).bind fun r91 =>
               (wF r90 r91).bind fun r92 =>
               some (decide (r92 < 0))
               else
                some false:Option (Bool)).bind fun z140 =>
              bif z140 then
               some (.inl (IntKind.i64.wrap (x23 + 1)))
              else
               some (.inr x23)) F 0).bind fun z139 =>
            (Cn 56 n35.elems z139 (DElem.mk p1 p3 0 p2)).bind fun _ =>
            some ((wE n35.elems z139.toNat (DElem.mk p1 p3 0 p2)),n35.kids,n35.seps,n35.tids,(wt x21 x22))
            else
             (wj (DElem.mk p1 p3 0 p2)).bind fun r93 =>
             (yd F n35 r93).bind fun r94 =>
             (idx n35.kids r94).bind fun e39 =>
             (rf6 ((wt x21 x22),e39)).bind fun z=>match z with
              | (z141,z142,z143,z144,z145,z146,z147) =>
               (idx n35.kids r94).bind fun e40 =>
               (xp z141 e40).bind fun n36 =>
               (wy F n36).bind fun r95 =>
               (idx n35.tids r94).bind fun e41 =>
               bif z147 then
                (Cn 8 n35.kids (IntKind.i64.wrap (r94 + 1)) z146).bind fun _ =>
                (Cn 32 n35.seps r94 (DSpot.mk (DKey.mk z142 z143 z144) z145)).bind fun _ =>
                (xp z141 z146).bind fun n37 =>
                (wy F n37).bind fun r96 =>
                (Cn 8 (n35.tids.set r94.toNat r95) (IntKind.i64.wrap (r94 + 1)) r96).bind fun _ =>
                some (n35.elems,(wE n35.kids (IntKind.i64.wrap (r94 + 1)).toNat z146),(wE n35.seps r94.toNat (DSpot.mk (DKey.mk z142 z143 z144) z145)),(wE (n35.tids.set r94.toNat r95) (IntKind.i64.wrap (r94 + 1)).toNat r96),z141)
               else
                some (n35.elems,n35.kids,n35.seps,(n35.tids.set r94.toNat r95),z141) : Option ((List DElem) × (List Int) × (List DSpot) × (List Int) × (List (Int ⊕ DNode)))).bind fun z=>match z with
           | (z134,z135,z136,z137,z138) =>
            bif decide ((IntKind.i64.wrap ((z134.length:Int) + (z135.length:Int)))≤8) then
             (xO z138 x22).bind fun u17 =>
             some ((v0 z138 x22 (DNode.mk n35.kind z134 z135 z136 z137)),0,0,0,0,0,false)
            else
             (
              bif (n35.kind == 1) then
               (wn z134 4 (z134.length:Int)).bind fun s27 =>
               (xT 56 ([] : List DElem) s27).bind fun _ =>
               (wn z134 0 4).bind fun s28 =>
               (idx s27 0).bind fun e43 =>
               (wj e43).bind fun r98 =>
               some ([],[],[],s27,s28,z135,z136,z137,r98.key.pfs,r98.key.obj,r98.key.off,r98.made,1)
               else
                (wn z135 4 (z135.length:Int)).bind fun s29 =>
                (wn z136 4 (z136.length:Int)).bind fun s30 =>
                (wn z137 4 (z137.length:Int)).bind fun s31 =>
                (xT 8 ([] : List Int) s29).bind fun y39 =>
                (xT 32 ([] : List DSpot) s30).bind fun y40 =>
                (xT 8 ([] : List Int) s31).bind fun y41 =>
                (idx z136 3).bind fun e44 =>
                (wn z135 0 4).bind fun s32 =>
                (wn z136 0 3).bind fun s33 =>
                (wn z137 0 4).bind fun s34 =>
                some (s31,s30,s29,[],z134,s32,s33,s34,e44.key.pfs,e44.key.obj,e44.key.off,e44.made,2) : Option ((List Int) × (List DSpot) × (List Int) × (List DElem) × (List DElem) × (List Int) × (List DSpot) × (List Int) × Int × Int × Int × Int × Int)).bind fun z=>match z with
              | (z148,z149,z150,z151,z152,z153,z154,z155,z156,z157,z158,z159,z160) =>
               (xO z138 x22).bind fun u18 =>
               (
                (iter (σ:=Int) (ρ:=(Unit) ⊕ ((List (Int ⊕ DNode)) × Int)) (fun x24 =>
                 bif decide (x24 < ((v0 z138 x22 (DNode.mk n35.kind z152 z153 z154 z155)).length:Int)) then
                  (Bl (v0 z138 x22 (DNode.mk n35.kind z152 z153 z154 z155)) x24).bind fun kd4 =>
                  bif (kd4 == 0) then
                   (xO (v0 z138 x22 (DNode.mk n35.kind z152 z153 z154 z155)) x24).bind fun u19 =>
                   some (.inr (.inr ((v0 (v0 z138 x22 (DNode.mk n35.kind z152 z153 z154 z155)) x24 (DNode.mk z160 z151 z150 z149 z148)),x24)))
                  else
                   some (.inl (IntKind.i64.wrap (x24 + 1)))
                  else
                   some (.inr (.inl ()))) F 0).bind fun z=>match z with
                 | .inl _ =>
                  (BP 104 ((v0 z138 x22 (DNode.mk n35.kind z152 z153 z154 z155)).length + 1)).bind fun u20 =>
                  some (((v0 z138 x22 (DNode.mk n35.kind z152 z153 z154 z155)) ++ [(Sum.inr (DNode.mk z160 z151 z150 z149 z148) : Int ⊕ DNode)]),IntKind.i64.wrap ((((v0 z138 x22 (DNode.mk n35.kind z152 z153 z154 z155)) ++ [(Sum.inr (DNode.mk z160 z151 z150 z149 z148) : Int ⊕ DNode)]).length:Int) - 1))
                 | .inr q=>some q:Option ((List (Int ⊕ DNode)) × Int)).bind fun z=>match z with
                | (z161,z162) =>
                 some (z161,z156,z157,z158,z159,z162,true)) F (z5,r5.root)).bind fun z=>match z with
        | (z48,z49,z50,z51,z52,z53,z54) =>
         bif (!z54) then
          some (r5.root,z48)
         else
          (xp z48 r5.root).bind fun n45 =>
          (xp z48 z53).bind fun n46 =>
          (wy F n45).bind fun r106 =>
          (wy F n46).bind fun r107 =>
          (
           (iter (σ:=Int) (ρ:=(Unit) ⊕ ((List (Int ⊕ DNode)) × Int)) (fun x25 =>
            bif decide (x25 < (z48.length:Int)) then
             (Bl z48 x25).bind fun kd5 =>
             bif (kd5 == 0) then
              (xO z48 x25).bind fun u21 =>
              some (.inr (.inr ((v0 z48 x25 (DNode.mk 2 [] [r5.root,z53] [(DSpot.mk (DKey.mk z49 z50 z51) z52)] [r106,r107])),x25)))
             else
              some (.inl (IntKind.i64.wrap (x25 + 1)))
             else
              some (.inr (.inl ()))) F 0).bind fun z=>match z with
            | .inl _ =>
             (BP 104 (z48.length + 1)).bind fun u22 =>
             some ((z48 ++ [(Sum.inr (DNode.mk 2 [] [r5.root,z53] [(DSpot.mk (DKey.mk z49 z50 z51) z52)] [r106,r107]) : Int ⊕ DNode)]),IntKind.i64.wrap (((z48 ++ [(Sum.inr (DNode.mk 2 [] [r5.root,z53] [(DSpot.mk (DKey.mk z49 z50 z51) z52)] [r106,r107]) : Int ⊕ DNode)]).length:Int) - 1))
            | .inr q=>some q:Option ((List (Int ⊕ DNode)) × Int)).bind fun z=>match z with
           | (z163,z164) =>
            some (z164,z163) : Option (Int × (List (Int ⊕ DNode)))).bind fun z=>match z with
       | (z10,z11) =>
        (Bh z11).bind fun l2 =>
        some ((DTree.mk z10 l2),0)
end Go.Proofs.Ytcmkdoahkncakaa
