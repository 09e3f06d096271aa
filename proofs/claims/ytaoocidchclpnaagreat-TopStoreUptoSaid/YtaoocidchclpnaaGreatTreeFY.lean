/- Pure functions of group Tree. Conditions: none. -/
import Derived.Test.YtaoocidchclpnaaGreatNodeFY
import Derived.Test.YtaoocidchclpnaaGreatRecY
import Derived.Test.YtaoocidchclpnaaGreatMapY
namespace Go.Proofs.YtaoocidchclpnaaGreat
set_option linter.unusedVariables false
def oe (F:Nat) (p0:DTree) : Option (Int) :=
 bif decide ((400:Int) < (p0.nodes.length:Int)) then
  some 2
 else
  (iter (σ:=Int) (ρ:=(Unit) ⊕ Int) (fun x1 =>
   bif decide (x1 < (p0.nodes.length:Int)) then
    (idx p0.nodes x1).bind fun e1 =>
    (l8 F e1).bind fun r1 =>
    bif (r1 != 0) then
     some (.inr (.inr r1))
    else
     some (.inl (IntKind.i64.wrap (x1 + 1)))
    else
     some (.inr (.inl ()))) F 0).bind fun z=>match z with
   | .inl _ =>
    (qV 1 (p0.nodes.length:Int)).bind fun u1 =>
    (ql (σ:=(List Bool) × Int × Int × Int × Int × Int × Int × Int × Int × Int × Int × Int × Int × Bool × Bool) (ρ:=(List Bool) × Int × Int × Int) (fun rf1 x=>match x with
     | (x2,x3,x4,x5,x6,x7,x8,x9,x10,x11,x12,x13,x14,x15,x16) =>
      bif (x4 != 0) then
       some (x2,x3,x4,0)
       else
        (
         bif decide (x5 < 0) then
          some true
          else
           bif decide ((p0.nodes.length:Int)≤x5) then
            some true
           else
            (idx x2 x5).bind fun e2 =>
            bif e2 then
             some true
            else
             (idx p0.nodes x5).bind fun e3 =>
             some (e3.kind == 0) : Option (Bool)).bind fun z5 =>
        bif z5 then
         (
          bif (x4 == 0) then
           some 3
           else
            some x4:Option (Int)).bind fun z6 =>
         some (x2,x3,z6,0)
        else
         (idx x2 x5).bind fun e4 =>
         (idx p0.nodes x5).bind fun e5 =>
         (
          bif ((decide ((0:Int) < x6)) && (decide ((IntKind.i64.wrap ((e5.elems.length:Int) + (e5.kids.length:Int))) < 4))) then
           (
            bif (x4 == 0) then
             some 3
             else
              some x4:Option (Int)).bind fun z8 =>
           some z8
           else
            some x4:Option (Int)).bind fun z7 =>
         bif (e5.kind == 1) then
          (
           bif decide (x3 < 0) then
            some x6
            else
             some x3:Option (Int)).bind fun z9 =>
          (
           bif (z9 != x6) then
            (
             bif (z7 == 0) then
              some 3
              else
               some z7:Option (Int)).bind fun z11 =>
            some z11
            else
             some z7:Option (Int)).bind fun z10 =>
          (iter (σ:=Int × Int) (ρ:=Int) (fun x=>match x with
           | (x17,x18) =>
            bif decide (x18 < (e5.elems.length:Int)) then
             (
              (idx e5.elems x18).bind fun e6 =>
               (jf e6).bind fun r3 =>
               (
                (
                 bif (!x15) then
                  bif (!x16) then
                   some true
                  else
                   (jp r3 (DSpot.mk (DKey.mk x11 x12 x13) x14)).bind fun r6 =>
                   some (decide (r6 < 0))
                  else
                   (jp (DSpot.mk (DKey.mk x7 x8 x9) x10) r3).bind fun r4 =>
                   bif decide (r4≤0) then
                    bif (!x16) then
                     some true
                    else
                     (jp r3 (DSpot.mk (DKey.mk x11 x12 x13) x14)).bind fun r5 =>
                     some (decide (r5 < 0))
                   else
                    some false:Option (Bool)).bind fun z15 =>
                 some z15:Option (Bool)).bind fun z14 =>
               bif (!z14) then
                (
                 bif (x17 == 0) then
                  some 3
                  else
                   some x17:Option (Int)).bind fun z16 =>
                some z16
               else
                some x17:Option (Int)).bind fun z13 =>
             some (.inl (z13,IntKind.i64.wrap (x18 + 1)))
             else
              some (.inr x17)) F (z10,0)).bind fun z12 =>
          (jl F e5).bind fun r7 =>
          some ((x2.set x5.toNat true),z9,z12,r7)
         else
          (iter (σ:=(List Bool) × Int × Int × Int) (ρ:=(List Bool) × Int × Int) (fun x=>match x with
           | (x19,x20,x21,x22) =>
            bif decide (x22 < (e5.kids.length:Int)) then
             (
              (idx e5.kids x22).bind fun e7 =>
               (
                bif decide ((0:Int) < x22) then
                 (idx e5.seps (IntKind.i64.wrap (x22 - 1))).bind fun e8 =>
                 (
                  (
                   bif (!x15) then
                    bif (!x16) then
                     some true
                    else
                     (jp e8 (DSpot.mk (DKey.mk x11 x12 x13) x14)).bind fun r10 =>
                     some (decide (r10 < 0))
                    else
                     (jp (DSpot.mk (DKey.mk x7 x8 x9) x10) e8).bind fun r8 =>
                     bif decide (r8≤0) then
                      bif (!x16) then
                       some true
                      else
                       (jp e8 (DSpot.mk (DKey.mk x11 x12 x13) x14)).bind fun r9 =>
                       some (decide (r9 < 0))
                     else
                      some false:Option (Bool)).bind fun z30 =>
                   some z30:Option (Bool)).bind fun z29 =>
                 bif (!z29) then
                  (
                   bif (x21 == 0) then
                    some 3
                    else
                     some x21:Option (Int)).bind fun z31 =>
                  some (e8.key.pfs,e8.key.obj,e8.key.off,e8.made,true,z31)
                 else
                  some (e8.key.pfs,e8.key.obj,e8.key.off,e8.made,true,x21)
                 else
                  some (x7,x8,x9,x10,x15,x21) : Option (Int × Int × Int × Int × Bool × Int)).bind fun z=>match z with
                | (z23,z24,z25,z26,z27,z28) =>
                 (
                  bif decide (x22 < (e5.seps.length:Int)) then
                   (idx e5.seps x22).bind fun e9 =>
                   some (e9.key.pfs,e9.key.obj,e9.key.off,e9.made,true)
                   else
                    some (x11,x12,x13,x14,x16) : Option (Int × Int × Int × Int × Bool)).bind fun z=>match z with
                  | (z32,z33,z34,z35,z36) =>
                   (idx e5.tids x22).bind fun e10 =>
                   (rf1 (x19,x20,z28,e7,IntKind.i64.wrap (x6 + 1),z23,z24,z25,z26,z32,z33,z34,z35,z27,z36)).bind fun z=>match z with
                    | (z37,z38,z39,z40) =>
                     bif (z40 != e10) then
                      (
                       bif (z39 == 0) then
                        some 3
                        else
                         some z39:Option (Int)).bind fun z41 =>
                      some (z37,z38,z41)
                     else
                      some (z37,z38,z39) : Option ((List Bool) × Int × Int)).bind fun z=>match z with
              | (z20,z21,z22) =>
               some (.inl (z20,z21,z22,IntKind.i64.wrap (x22 + 1)))
             else
              some (.inr (x19,x20,x21))) F ((x2.set x5.toNat true),x3,z7,0)).bind fun z=>match z with
           | (z17,z18,z19) =>
            (jl F e5).bind fun r11 =>
            some (z17,z18,z19,r11)) F ((List.replicate ((p0.nodes.length:Int).toNat) (false:Bool)),-1,0,p0.root,0,0,0,0,0,0,0,0,0,false,false)).bind fun z=>match z with
     | (z42,z43,z44,z45) =>
      (iter (σ:=Int × Int) (ρ:=Int) (fun x=>match x with
       | (x23,x24) =>
        bif decide (x24 < (p0.nodes.length:Int)) then
         (
          (idx p0.nodes x24).bind fun e11 =>
           (
            bif (e11.kind != 0) then
             (idx z42 x24).bind fun e12 =>
             some (!e12)
             else
              some false:Option (Bool)).bind fun z48 =>
           bif z48 then
            (
             bif (x23 == 0) then
              some 3
              else
               some x23:Option (Int)).bind fun z49 =>
            some z49
           else
            some x23:Option (Int)).bind fun z47 =>
         some (.inl (z47,IntKind.i64.wrap (x24 + 1)))
         else
          some (.inr x23)) F (z44,0)).bind fun z46 =>
      some z46
   | .inr q=>some q
def me (F:Nat) (p0:DTree) : Option (((List DElem)) × Int) :=
 (oe F p0).bind fun r1 =>
 bif (r1 != 0) then
  some ([],r1)
 else
  (
   (ql (σ:=(List DElem) × Int) (ρ:=(List DElem)) (fun rf2 x=>match x with
    | (x1,x2) =>
     (idx p0.nodes x2).bind fun e1 =>
      (iter (σ:=(List DElem) × Int) (ρ:=(List DElem)) (fun x=>match x with
       | (x3,x4) =>
        bif decide (x4 < (e1.elems.length:Int)) then
         (idx e1.elems x4).bind fun e2 =>
         (
          (jT 56 x3 [e2]).bind fun _ =>
           some () : Option (Unit)).bind fun _ =>
         some (.inl ((x3 ++ [e2]),IntKind.i64.wrap (x4 + 1)))
         else
          some (.inr x3)) F (x1,0)).bind fun z3 =>
      (iter (σ:=(List DElem) × Int) (ρ:=(List DElem)) (fun x=>match x with
       | (x5,x6) =>
        bif decide (x6 < (e1.kids.length:Int)) then
         (idx e1.kids x6).bind fun e3 =>
         (rf2 (x5,e3)).bind fun z5 =>
         some (.inl (z5,IntKind.i64.wrap (x6 + 1)))
         else
          some (.inr x5)) F (z3,0)).bind fun z4 =>
      some z4) F ([],p0.root)).bind fun q1 =>
    some q1:Option ((List DElem))).bind fun z1 =>
  some (z1,0)
def qh:Option (DTree) :=
 some (DTree.mk 0 [(DNode.mk 1 [] [] [] [])])
end Go.Proofs.YtaoocidchclpnaaGreat
