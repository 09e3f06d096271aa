/- Pure functions, written by walkgen.py out of the Go functions of group GrowI. Their conditions: none. -/
import Derived.Test.YtcmkdoahkncakaaLookFG
import Derived.Test.YtcmkdoahkncakaaCpFG
import Derived.Test.YtcmkdoahkncakaaTreeOG
import Derived.Test.YtcmkdoahkncakaaInsG
import Derived.Test.YtcmkdoahkncakaaRecG
import Derived.Test.YtcmkdoahkncakaaMapG
namespace Go.Proofs.Ytcmkdoahkncakaa
set_option linter.unusedVariables false
def vh (F:Nat) (p0:DTree) (p1:DElem) : Option (DTree × Int) :=
 (wx F p0 p1).bind fun r1 =>
 bif (r1.2.2 != 0) then
  some ((DTree.mk 0 []),r1.2.2)
 else
  bif r1.2.1 then
   some ((DTree.mk 0 []),5)
  else
   bif decide ((400:Int)≤r1.1) then
    some ((DTree.mk 0 []),8)
   else
    (vS F p0).bind fun r2 =>
    (
     (xC (σ:=(List (Int ⊕ DNode)) × Int) (ρ:=(List (Int ⊕ DNode)) × Int × Int × Int × Int × Int × Bool) (fun rf4 x=>match x with
      | (x13,x14) =>
       (uh x13 x14).bind fun n31 =>
        (
         bif (n31.kind == 1) then
          (iter (σ:=Int) (ρ:=Int) (fun x15 =>
           (
            bif decide (x15 < (n31.elems.length:Int)) then
             (idx n31.elems x15).bind fun e28 =>
             (sV e28).bind fun r68 =>
             (sV p1).bind fun r69 =>
             (tx r68 r69).bind fun r70 =>
             some (decide (r70 < 0))
             else
              some false:Option (Bool)).bind fun z131 =>
            bif z131 then
             some (.inl (IntKind.i64.wrap (x15 + 1)))
            else
             some (.inr x15)) F 0).bind fun z130 =>
          (yL 56 n31.elems z130 p1).bind fun _ =>
          some ((sU n31.elems z130.toNat p1),n31.kids,n31.seps,n31.tids,(sZ x13 x14))
          else
           (sV p1).bind fun r71 =>
           (vK F n31 r71).bind fun r72 =>
           (idx n31.kids r72).bind fun e29 =>
           (rf4 ((sZ x13 x14),e29)).bind fun z=>match z with
            | (z132,z133,z134,z135,z136,z137,z138) =>
             (idx n31.kids r72).bind fun e30 =>
             (uh z132 e30).bind fun n32 =>
             (tj F n32).bind fun r73 =>
             (idx n31.tids r72).bind fun e31 =>
             bif z138 then
              (yL 8 n31.kids (IntKind.i64.wrap (r72 + 1)) z137).bind fun _ =>
              (yL 32 n31.seps r72 (DSpot.mk (DKey.mk z133 z134 z135) z136)).bind fun _ =>
              (uh z132 z137).bind fun n33 =>
              (tj F n33).bind fun r74 =>
              (yL 8 (n31.tids.set r72.toNat r73) (IntKind.i64.wrap (r72 + 1)) r74).bind fun _ =>
              some (n31.elems,(sU n31.kids (IntKind.i64.wrap (r72 + 1)).toNat z137),(sU n31.seps r72.toNat (DSpot.mk (DKey.mk z133 z134 z135) z136)),(sU (n31.tids.set r72.toNat r73) (IntKind.i64.wrap (r72 + 1)).toNat r74),z132)
             else
              some (n31.elems,n31.kids,n31.seps,(n31.tids.set r72.toNat r73),z132) : Option ((List DElem) × (List Int) × (List DSpot) × (List Int) × (List (Int ⊕ DNode)))).bind fun z=>match z with
         | (z125,z126,z127,z128,z129) =>
          bif decide ((IntKind.i64.wrap ((z125.length:Int) + (z126.length:Int)))≤8) then
           (un z129 x14).bind fun u13 =>
           some ((sE z129 x14 (DNode.mk n31.kind z125 z126 z127 z128)),0,0,0,0,0,false)
          else
           (
            bif (n31.kind == 1) then
             (sL z125 4 (z125.length:Int)).bind fun s25 =>
             (uE 56 ([] : List DElem) s25).bind fun _ =>
             (sL z125 0 4).bind fun s26 =>
             (idx s25 0).bind fun e33 =>
             (sV e33).bind fun r76 =>
             some ([],[],[],s25,s26,z126,z127,z128,r76.key.pfs,r76.key.obj,r76.key.off,r76.made,1)
             else
              (sL z126 4 (z126.length:Int)).bind fun s27 =>
              (sL z127 4 (z127.length:Int)).bind fun s28 =>
              (sL z128 4 (z128.length:Int)).bind fun s29 =>
              (uE 8 ([] : List Int) s27).bind fun y37 =>
              (uE 32 ([] : List DSpot) s28).bind fun y38 =>
              (uE 8 ([] : List Int) s29).bind fun y39 =>
              (idx z127 3).bind fun e34 =>
              (sL z126 0 4).bind fun s30 =>
              (sL z127 0 3).bind fun s31 =>
              (sL z128 0 4).bind fun s32 =>
              some (s29,s28,s27,[],z125,s30,s31,s32,e34.key.pfs,e34.key.obj,e34.key.off,e34.made,2) : Option ((List Int) × (List DSpot) × (List Int) × (List DElem) × (List DElem) × (List Int) × (List DSpot) × (List Int) × Int × Int × Int × Int × Int)).bind fun z=>match z with
            | (z139,z140,z141,z142,z143,z144,z145,z146,z147,z148,z149,z150,z151) =>
             (un z129 x14).bind fun u14 =>
             (
              (iter (σ:=Int) (ρ:=(Unit) ⊕ ((List (Int ⊕ DNode)) × Int)) (fun x16 =>
               bif decide (x16 < ((sE z129 x14 (DNode.mk n31.kind z143 z144 z145 z146)).length:Int)) then
                (xF (sE z129 x14 (DNode.mk n31.kind z143 z144 z145 z146)) x16).bind fun kd4 =>
                bif (kd4 == 0) then
                 (un (sE z129 x14 (DNode.mk n31.kind z143 z144 z145 z146)) x16).bind fun u15 =>
                 some (.inr (.inr ((sE (sE z129 x14 (DNode.mk n31.kind z143 z144 z145 z146)) x16 (DNode.mk z151 z142 z141 z140 z139)),x16)))
                else
                 some (.inl (IntKind.i64.wrap (x16 + 1)))
                else
                 some (.inr (.inl ()))) F 0).bind fun z=>match z with
               | .inl _ =>
                (yh 104 ((sE z129 x14 (DNode.mk n31.kind z143 z144 z145 z146)).length + 1)).bind fun u16 =>
                some (((sE z129 x14 (DNode.mk n31.kind z143 z144 z145 z146)) ++ [(Sum.inr (DNode.mk z151 z142 z141 z140 z139) : Int ⊕ DNode)]),IntKind.i64.wrap ((((sE z129 x14 (DNode.mk n31.kind z143 z144 z145 z146)) ++ [(Sum.inr (DNode.mk z151 z142 z141 z140 z139) : Int ⊕ DNode)]).length:Int) - 1))
               | .inr q=>some q:Option ((List (Int ⊕ DNode)) × Int)).bind fun z=>match z with
              | (z152,z153) =>
               some (z152,z147,z148,z149,z150,z153,true)) F ((r2.nodes.map Sum.inr),r2.root)).bind fun z=>match z with
      | (z39,z40,z41,z42,z43,z44,z45) =>
       bif (!z45) then
        some (r2.root,z39)
       else
        (uh z39 r2.root).bind fun n41 =>
        (uh z39 z44).bind fun n42 =>
        (tj F n41).bind fun r84 =>
        (tj F n42).bind fun r85 =>
        (
         (iter (σ:=Int) (ρ:=(Unit) ⊕ ((List (Int ⊕ DNode)) × Int)) (fun x17 =>
          bif decide (x17 < (z39.length:Int)) then
           (xF z39 x17).bind fun kd5 =>
           bif (kd5 == 0) then
            (un z39 x17).bind fun u17 =>
            some (.inr (.inr ((sE z39 x17 (DNode.mk 2 [] [r2.root,z44] [(DSpot.mk (DKey.mk z40 z41 z42) z43)] [r84,r85])),x17)))
           else
            some (.inl (IntKind.i64.wrap (x17 + 1)))
           else
            some (.inr (.inl ()))) F 0).bind fun z=>match z with
          | .inl _ =>
           (yh 104 (z39.length + 1)).bind fun u18 =>
           some ((z39 ++ [(Sum.inr (DNode.mk 2 [] [r2.root,z44] [(DSpot.mk (DKey.mk z40 z41 z42) z43)] [r84,r85]) : Int ⊕ DNode)]),IntKind.i64.wrap (((z39 ++ [(Sum.inr (DNode.mk 2 [] [r2.root,z44] [(DSpot.mk (DKey.mk z40 z41 z42) z43)] [r84,r85]) : Int ⊕ DNode)]).length:Int) - 1))
          | .inr q=>some q:Option ((List (Int ⊕ DNode)) × Int)).bind fun z=>match z with
         | (z154,z155) =>
          some (z155,z154) : Option (Int × (List (Int ⊕ DNode)))).bind fun z=>match z with
     | (z1,z2) =>
      (ym z2).bind fun l1 =>
      some ((DTree.mk z1 l1),0)
end Go.Proofs.Ytcmkdoahkncakaa
