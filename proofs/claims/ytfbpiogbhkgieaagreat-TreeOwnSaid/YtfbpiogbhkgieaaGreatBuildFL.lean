/- Pure functions of group Build. Conditions: none. -/
import Derived.Test.YtfbpiogbhkgieaaGreatNodeFL
import Derived.Test.YtfbpiogbhkgieaaGreatTreeOL
import Derived.Test.YtfbpiogbhkgieaaGreatRecL
namespace Go.Proofs.YtfbpiogbhkgieaaGreat
set_option linter.unusedVariables false
def lq (F:Nat) (p0:Int) : Option (((List Int))) :=
 (iter (σ:=(List Int) × Int) (ρ:=(List Int)) (fun x=>match x with
  | (x1,x2) =>
   bif decide (x2 < (if (1:Int) < (IntKind.i64.wrap ((IntKind.i64.wrap ((IntKind.i64.wrap (p0 + 8)) - 1) : Int).tdiv 8)) then IntKind.i64.wrap ((IntKind.i64.wrap ((IntKind.i64.wrap (p0 + 8)) - 1) : Int).tdiv 8) else 1)) then
    (qw (if (1:Int) < (IntKind.i64.wrap ((IntKind.i64.wrap ((IntKind.i64.wrap (p0 + 8)) - 1) : Int).tdiv 8)) then IntKind.i64.wrap ((IntKind.i64.wrap ((IntKind.i64.wrap (p0 + 8)) - 1) : Int).tdiv 8) else 1)).bind fun d1 =>
    (qw (if (1:Int) < (IntKind.i64.wrap ((IntKind.i64.wrap ((IntKind.i64.wrap (p0 + 8)) - 1) : Int).tdiv 8)) then IntKind.i64.wrap ((IntKind.i64.wrap ((IntKind.i64.wrap (p0 + 8)) - 1) : Int).tdiv 8) else 1)).bind fun d2 =>
    (lf 8 x1 [IntKind.i64.wrap ((IntKind.i64.wrap ((IntKind.i64.wrap (p0 * (IntKind.i64.wrap (x2 + 1)))).tdiv d1)) - (IntKind.i64.wrap ((IntKind.i64.wrap (p0 * x2)).tdiv d2)))]).bind fun _ =>
    some (.inl ((x1 ++ [IntKind.i64.wrap ((IntKind.i64.wrap ((IntKind.i64.wrap (p0 * (IntKind.i64.wrap (x2 + 1)))).tdiv d1)) - (IntKind.i64.wrap ((IntKind.i64.wrap (p0 * x2)).tdiv d2)))]),IntKind.i64.wrap (x2 + 1)))
    else
     some (.inr x1)) F ([],0)).bind fun z1 =>
 some z1
def nC (F:Nat) (p0:(List DElem)) : Option (DTree × Int) :=
 bif decide ((400:Int) < (p0.length:Int)) then
  some ((DTree.mk 0 []),2)
 else
  (iter (σ:=Int) (ρ:=(Unit) ⊕ (DTree × Int)) (fun x1 =>
   bif decide (x1 < (p0.length:Int)) then
    (idx p0 x1).bind fun e1 =>
    (kz e1).bind fun r2 =>
    bif (r2 != 0) then
     some (.inr (.inr ((DTree.mk 0 []),r2)))
    else
     (
      bif decide ((0:Int) < x1) then
       (idx p0 (IntKind.i64.wrap (x1 - 1))).bind fun e2 =>
       (jb e2).bind fun r4 =>
       (jb e1).bind fun r5 =>
       (jt r4 r5).bind fun r6 =>
       some (decide ((0:Int)≤r6))
       else
        some false:Option (Bool)).bind fun z1 =>
     bif z1 then
      some (.inr (.inr ((DTree.mk 0 []),3)))
     else
      some (.inl (IntKind.i64.wrap (x1 + 1)))
    else
     some (.inr (.inl ()))) F 0).bind fun z=>match z with
   | .inl _ =>
    (lq F (p0.length:Int)).bind fun r8 =>
    (iter (σ:=(List (Int ⊕ DNode)) × (List Dbuild_low) × (List DElem) × Int) (ρ:=(List (Int ⊕ DNode)) × (List Dbuild_low)) (fun x=>match x with
     | (x2,x3,x4,x5) =>
      bif decide (x5 < (r8.length:Int)) then
       (idx r8 x5).bind fun e3 =>
       (
        bif decide ((0:Int) < e3) then
         (idx x4 0).bind fun e4 =>
         (jb e4).bind fun r11 =>
         some (r11.key.pfs,r11.key.obj,r11.key.off,r11.made)
         else
          some (0,0,0,0) : Option (Int × Int × Int × Int)).bind fun z=>match z with
        | (z4,z5,z6,z7) =>
         (i9 x4 0 e3).bind fun s2 =>
         (lf 56 ([] : List DElem) s2).bind fun _ =>
         (pG 104 (x2.length + 1)).bind fun u1 =>
         (lf 40 x3 [(Dbuild_low.mk (x2.length:Int) (DSpot.mk (DKey.mk z4 z5 z6) z7))]).bind fun _ =>
         (i9 x4 e3 (x4.length:Int)).bind fun s3 =>
         some (.inl ((x2 ++ [(Sum.inr (DNode.mk 1 (([] : List DElem) ++ s2) [] [] []) : Int ⊕ DNode)]),(x3 ++ [(Dbuild_low.mk (x2.length:Int) (DSpot.mk (DKey.mk z4 z5 z6) z7))]),s3,IntKind.i64.wrap (x5 + 1)))
       else
        some (.inr (x2,x3))) F ([],[],p0,0)).bind fun z=>match z with
     | (z2,z3) =>
      (iter (σ:=(List (Int ⊕ DNode)) × (List Dbuild_low)) (ρ:=(List (Int ⊕ DNode)) × (List Dbuild_low)) (fun x=>match x with
       | (x6,x7) =>
        bif decide ((1:Int) < (x7.length:Int)) then
         (lq F (x7.length:Int)).bind fun r16 =>
         (iter (σ:=(List Dbuild_low) × (List (Int ⊕ DNode)) × (List Dbuild_low) × Int) (ρ:=(List Dbuild_low) × (List (Int ⊕ DNode))) (fun x=>match x with
          | (x8,x9,x10,x11) =>
           bif decide (x11 < (r16.length:Int)) then
            (idx r16 x11).bind fun e5 =>
            (i9 x10 0 e5).bind fun s6 =>
            (iter (σ:=(List DSpot) × (List Int) × (List Int) × Int) (ρ:=(List DSpot) × (List Int) × (List Int)) (fun x=>match x with
             | (x12,x13,x14,x15) =>
              bif decide (x15 < (s6.length:Int)) then
               (
                (idx s6 x15).bind fun e6 =>
                 (lf 8 x14 [e6.i]).bind fun _ =>
                 (j6 x9 e6.i).bind fun n1 =>
                 (jm F n1).bind fun r21 =>
                 (lf 8 x13 [r21]).bind fun _ =>
                 bif decide ((0:Int) < x15) then
                  (lf 32 x12 [e6.s]).bind fun _ =>
                  some ((x12 ++ [e6.s]),(x13 ++ [r21]),(x14 ++ [e6.i]))
                 else
                  some (x12,(x13 ++ [r21]),(x14 ++ [e6.i])) : Option ((List DSpot) × (List Int) × (List Int))).bind fun z=>match z with
                | (z15,z16,z17) =>
                 some (.inl (z15,z16,z17,IntKind.i64.wrap (x15 + 1)))
               else
                some (.inr (x12,x13,x14))) F ([],[],[],0)).bind fun z=>match z with
             | (z12,z13,z14) =>
              (idx x10 0).bind fun e7 =>
              (lf 40 x8 [(Dbuild_low.mk (x9.length:Int) e7.s)]).bind fun _ =>
              (pG 104 (x9.length + 1)).bind fun u2 =>
              (i9 x10 e5 (x10.length:Int)).bind fun s8 =>
              some (.inl ((x8 ++ [(Dbuild_low.mk (x9.length:Int) e7.s)]),(x9 ++ [(Sum.inr (DNode.mk 2 [] z14 z12 z13) : Int ⊕ DNode)]),s8,IntKind.i64.wrap (x11 + 1)))
            else
             some (.inr (x8,x9))) F ([],x6,x7,0)).bind fun z=>match z with
          | (z10,z11) =>
           some (.inl (z11,z10))
         else
          some (.inr (x6,x7))) F (z2,z3)).bind fun z=>match z with
       | (z8,z9) =>
        (idx z9 0).bind fun e8 =>
        (mW z8).bind fun l1 =>
        some ((DTree.mk e8.i l1),0)
   | .inr q=>some q
end Go.Proofs.YtfbpiogbhkgieaaGreat
