/- Pure functions of group Build. Conditions: none. -/
import Derived.Test.YtaoocidchclpnaaGreatNodeFY
import Derived.Test.YtaoocidchclpnaaGreatRecY
import Derived.Test.YtaoocidchclpnaaGreatMapY
namespace Go.Proofs.YtaoocidchclpnaaGreat
set_option linter.unusedVariables false
def lH (F:Nat) (p0:Int) : Option (((List Int))) :=
 (iter (σ:=(List Int) × Int) (ρ:=(List Int)) (fun x=>match x with
  | (x1,x2) =>
   bif decide (x2 < (if (1:Int) < (IntKind.i64.wrap ((IntKind.i64.wrap ((IntKind.i64.wrap (p0 + 8)) - 1) : Int).tdiv 8)) then IntKind.i64.wrap ((IntKind.i64.wrap ((IntKind.i64.wrap (p0 + 8)) - 1) : Int).tdiv 8) else 1)) then
    (qf (if (1:Int) < (IntKind.i64.wrap ((IntKind.i64.wrap ((IntKind.i64.wrap (p0 + 8)) - 1) : Int).tdiv 8)) then IntKind.i64.wrap ((IntKind.i64.wrap ((IntKind.i64.wrap (p0 + 8)) - 1) : Int).tdiv 8) else 1)).bind fun d1 =>
    (qf (if (1:Int) < (IntKind.i64.wrap ((IntKind.i64.wrap ((IntKind.i64.wrap (p0 + 8)) - 1) : Int).tdiv 8)) then IntKind.i64.wrap ((IntKind.i64.wrap ((IntKind.i64.wrap (p0 + 8)) - 1) : Int).tdiv 8) else 1)).bind fun d2 =>
    (jT 8 x1 [IntKind.i64.wrap ((IntKind.i64.wrap ((IntKind.i64.wrap (p0 * (IntKind.i64.wrap (x2 + 1)))).tdiv d1)) - (IntKind.i64.wrap ((IntKind.i64.wrap (p0 * x2)).tdiv d2)))]).bind fun _ =>
    some (.inl ((x1 ++ [IntKind.i64.wrap ((IntKind.i64.wrap ((IntKind.i64.wrap (p0 * (IntKind.i64.wrap (x2 + 1)))).tdiv d1)) - (IntKind.i64.wrap ((IntKind.i64.wrap (p0 * x2)).tdiv d2)))]),IntKind.i64.wrap (x2 + 1)))
    else
     some (.inr x1)) F ([],0)).bind fun z1 =>
 some z1
def pK (F:Nat) (p0:(List DElem)) : Option (DTree × Int) :=
 bif decide ((400:Int) < (p0.length:Int)) then
  some ((DTree.mk 0 []),2)
 else
  (iter (σ:=Int) (ρ:=(Unit) ⊕ (DTree × Int)) (fun x1 =>
   bif decide (x1 < (p0.length:Int)) then
    (idx p0 x1).bind fun e1 =>
    (j7 e1).bind fun r1 =>
    bif (r1 != 0) then
     some (.inr (.inr ((DTree.mk 0 []),r1)))
    else
     (
      bif decide ((0:Int) < x1) then
       (idx p0 (IntKind.i64.wrap (x1 - 1))).bind fun e2 =>
       (jf e2).bind fun r2 =>
       (jf e1).bind fun r3 =>
       (jp r2 r3).bind fun r4 =>
       some (decide ((0:Int)≤r4))
       else
        some false:Option (Bool)).bind fun z1 =>
     bif z1 then
      some (.inr (.inr ((DTree.mk 0 []),3)))
     else
      some (.inl (IntKind.i64.wrap (x1 + 1)))
    else
     some (.inr (.inl ()))) F 0).bind fun z=>match z with
   | .inl _ =>
    (lH F (p0.length:Int)).bind fun r5 =>
    (iter (σ:=(List DNode) × (List Dbuild_low) × (List DElem) × Int) (ρ:=(List DNode) × (List Dbuild_low)) (fun x=>match x with
     | (x2,x3,x4,x5) =>
      bif decide (x5 < (r5.length:Int)) then
       (idx r5 x5).bind fun e3 =>
       (
        bif decide ((0:Int) < e3) then
         (idx x4 0).bind fun e4 =>
         (jf e4).bind fun r8 =>
         some (r8.key.pfs,r8.key.obj,r8.key.off,r8.made)
         else
          some (0,0,0,0) : Option (Int × Int × Int × Int)).bind fun z=>match z with
        | (z4,z5,z6,z7) =>
         (ja x4 0 e3).bind fun s2 =>
         (jT 56 ([] : List DElem) s2).bind fun y3 =>
         (jT 104 x2 [(DNode.mk 1 (([] : List DElem) ++ s2) [] [] [])]).bind fun y4 =>
         (jT 40 x3 [(Dbuild_low.mk (x2.length:Int) (DSpot.mk (DKey.mk z4 z5 z6) z7))]).bind fun _ =>
         (ja x4 e3 (x4.length:Int)).bind fun s3 =>
         some (.inl ((x2 ++ [(DNode.mk 1 (([] : List DElem) ++ s2) [] [] [])]),(x3 ++ [(Dbuild_low.mk (x2.length:Int) (DSpot.mk (DKey.mk z4 z5 z6) z7))]),s3,IntKind.i64.wrap (x5 + 1)))
       else
        some (.inr (x2,x3))) F ([],[],p0,0)).bind fun z=>match z with
     | (z2,z3) =>
      (iter (σ:=(List DNode) × (List Dbuild_low)) (ρ:=(List DNode) × (List Dbuild_low)) (fun x=>match x with
       | (x6,x7) =>
        bif decide ((1:Int) < (x7.length:Int)) then
         (lH F (x7.length:Int)).bind fun r10 =>
         (iter (σ:=(List Dbuild_low) × (List DNode) × (List Dbuild_low) × Int) (ρ:=(List Dbuild_low) × (List DNode)) (fun x=>match x with
          | (x8,x9,x10,x11) =>
           bif decide (x11 < (r10.length:Int)) then
            (idx r10 x11).bind fun e5 =>
            (ja x10 0 e5).bind fun s6 =>
            (iter (σ:=(List DSpot) × (List Int) × (List Int) × Int) (ρ:=(List DSpot) × (List Int) × (List Int)) (fun x=>match x with
             | (x12,x13,x14,x15) =>
              bif decide (x15 < (s6.length:Int)) then
               (
                (idx s6 x15).bind fun e6 =>
                 (jT 8 x14 [e6.i]).bind fun _ =>
                 (idx x9 e6.i).bind fun e7 =>
                 (jl F e7).bind fun r15 =>
                 (jT 8 x13 [r15]).bind fun y10 =>
                 bif decide ((0:Int) < x15) then
                  (jT 32 x12 [e6.s]).bind fun _ =>
                  some ((x12 ++ [e6.s]),(x13 ++ [r15]),(x14 ++ [e6.i]))
                 else
                  some (x12,(x13 ++ [r15]),(x14 ++ [e6.i])) : Option ((List DSpot) × (List Int) × (List Int))).bind fun z=>match z with
                | (z15,z16,z17) =>
                 some (.inl (z15,z16,z17,IntKind.i64.wrap (x15 + 1)))
               else
                some (.inr (x12,x13,x14))) F ([],[],[],0)).bind fun z=>match z with
             | (z12,z13,z14) =>
              (idx x10 0).bind fun e8 =>
              (jT 40 x8 [(Dbuild_low.mk (x9.length:Int) e8.s)]).bind fun _ =>
              (jT 104 x9 [(DNode.mk 2 [] z14 z12 z13)]).bind fun _ =>
              (ja x10 e5 (x10.length:Int)).bind fun s8 =>
              some (.inl ((x8 ++ [(Dbuild_low.mk (x9.length:Int) e8.s)]),(x9 ++ [(DNode.mk 2 [] z14 z12 z13)]),s8,IntKind.i64.wrap (x11 + 1)))
            else
             some (.inr (x8,x9))) F ([],x6,x7,0)).bind fun z=>match z with
          | (z10,z11) =>
           some (.inl (z11,z10))
         else
          some (.inr (x6,x7))) F (z2,z3)).bind fun z=>match z with
       | (z8,z9) =>
        (idx z9 0).bind fun e9 =>
        some ((DTree.mk e9.i z8),0)
   | .inr q=>some q
end Go.Proofs.YtaoocidchclpnaaGreat
