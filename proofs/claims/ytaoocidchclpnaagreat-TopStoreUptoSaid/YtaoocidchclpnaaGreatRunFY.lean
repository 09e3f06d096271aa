/- Pure functions of group Run. Conditions: none. -/
import Derived.Test.YtaoocidchclpnaaGreatEqLY
import Derived.Test.YtaoocidchclpnaaGreatMapY
open ByteArray renaming mk→a_
namespace Go.Proofs.YtaoocidchclpnaaGreat
set_option linter.unusedVariables false
def nI (F:Nat) (p0:(List DElem)) : Option (Int) :=
 bif decide ((400:Int) < (p0.length:Int)) then
  some 2
 else
  (iter (σ:=Int) (ρ:=(Unit) ⊕ Int) (fun x1 =>
   bif decide (x1 < (p0.length:Int)) then
    (
     (idx p0 x1).bind fun e1 =>
      (j7 e1).bind fun r1 =>
      bif (r1 != 0) then
       some (.inr (.inr (.inr r1)))
      else
       bif (x1 == 0) then
        some (.inl ())
       else
        (idx p0 (IntKind.i64.wrap (x1 - 1))).bind fun e2 =>
        (
         (jf e2).bind fun r2 =>
          (jf e1).bind fun r3 =>
          (jp r2 r3).bind fun r4 =>
          bif decide ((0:Int)≤r4) then
           some true
          else
           bif (e2.key == e1.key) then
            bif (e2.gone == 0) then
             some true
            else
             some (decide (e1.made < e2.gone))
           else
            some false:Option (Bool)).bind fun z1 =>
        bif z1 then
         some (.inr (.inr (.inr 3)))
        else
         some (.inl ()) : Option ((Unit) ⊕ ((Int) ⊕ ((Unit) ⊕ Int)))).bind fun z=>match z with
     | .inl _ =>
      some (.inl (IntKind.i64.wrap (x1 + 1)))
     | .inr q=>some q
    else
     some (.inr (.inl ()))) F 0).bind fun z=>match z with
   | .inl _ =>
    some 0
   | .inr q=>some q
def qb (F:Nat) (p0:(List DElem)) : Option (Int) :=
 (iter (σ:=Int × Int) (ρ:=Int) (fun x=>match x with
  | (x1,x2) =>
   bif decide (x2 < (p0.length:Int)) then
    (idx p0 x2).bind fun e1 =>
    (nC e1).bind fun r1 =>
    some (.inl ((if x1 < r1 then r1 else x1),IntKind.i64.wrap (x2 + 1)))
    else
     some (.inr x1)) F (0,0)).bind fun z1 =>
 some z1
def nJ (F:Nat) (p0:(List DElem)) (p1:DSpot) : Option (Int) :=
 (
  (iter (σ:=Int × Int) (ρ:=Int) (fun x=>match x with
   | (x1,x2) =>
    bif decide (x1 < x2) then
     (
      (idx p0 (IntKind.i64.wrap (shr .u64 (IntKind.u64.wrap (IntKind.i64.wrap (x1 + x2))) 1))).bind fun e1 =>
       (jf e1).bind fun r1 =>
       (jp r1 p1).bind fun r2 =>
       some (decide ((0:Int)≤r2)) : Option (Bool)).bind fun z3 =>
     bif (!z3) then
      some (.inl (IntKind.i64.wrap ((IntKind.i64.wrap (shr .u64 (IntKind.u64.wrap (IntKind.i64.wrap (x1 + x2))) 1)) + 1),x2))
     else
      some (.inl (x1,IntKind.i64.wrap (shr .u64 (IntKind.u64.wrap (IntKind.i64.wrap (x1 + x2))) 1)))
     else
      some (.inr x1)) F (0,(p0.length:Int))).bind fun z2 =>
   some z2:Option (Int)).bind fun z1 =>
 some z1
def qD (F:Nat) (p0:(List DElem)) (p1:DKey) : Option (Int) :=
 (nJ F p0 (DSpot.mk p1 2147483648)).bind fun r1 =>
 (
  bif decide ((IntKind.i64.wrap (r1 - 1)) < 0) then
   some true
   else
    (idx p0 (IntKind.i64.wrap (r1 - 1))).bind fun e1 =>
    bif (!(e1.key == p1)) then
     some true
    else
     (idx p0 (IntKind.i64.wrap (r1 - 1))).bind fun e2 =>
     some (e2.gone != 0) : Option (Bool)).bind fun z1 =>
 bif z1 then
  some (-1)
 else
  some (IntKind.i64.wrap (r1 - 1))
def qC (F:Nat) (p0:(List DElem)) (p1:DKey) (p2:ByteArray) (p3:Int) : Option (((List DElem)) × Int) :=
 (nI F p0).bind fun r1 =>
 bif (r1 != 0) then
  some ([],r1)
 else
  (j7 (DElem.mk p1 p3 0 p2)).bind fun r2 =>
  bif (r2 != 0) then
   some ([],r2)
  else
   (qb F p0).bind fun r3 =>
   bif decide (p3 < r3) then
    some ([],9)
   else
    (jT 56 ([] : List DElem) p0).bind fun _ =>
    (
     (qD F (([] : List DElem) ++ p0) p1).bind fun r5 =>
      bif decide ((0:Int)≤r5) then
       (idx (([] : List DElem) ++ p0) r5).bind fun e1 =>
       bif (e1.made == p3) then
        (idx (([] : List DElem) ++ p0) r5).bind fun e2 =>
        some (.inr (((([] : List DElem) ++ p0).set r5.toNat (DElem.mk e2.key e2.made e2.gone p2)),0))
       else
        (idx (([] : List DElem) ++ p0) r5).bind fun e3 =>
        some (.inl ((([] : List DElem) ++ p0).set r5.toNat (DElem.mk e3.key e3.made p3 e3.val)))
      else
       some (.inl (([] : List DElem) ++ p0)) : Option (((List DElem)) ⊕ (((List DElem)) × Int))).bind fun z=>match z with
     | .inl z1 =>
      bif ((z1.length:Int) == 400) then
       some ([],8)
      else
       (nJ F z1 (DSpot.mk p1 p3)).bind fun r6 =>
       (jT 56 z1 [(DElem.mk (DKey.mk 0 0 0) 0 0 (a_ #[]))]).bind fun _ =>
       (ja (z1 ++ [(DElem.mk (DKey.mk 0 0 0) 0 0 (a_ #[]))]) (IntKind.i64.wrap (r6 + 1)) ((z1 ++ [(DElem.mk (DKey.mk 0 0 0) 0 0 (a_ #[]))]).length:Int)).bind fun s1 =>
       (ja (z1 ++ [(DElem.mk (DKey.mk 0 0 0) 0 0 (a_ #[]))]) r6 ((z1 ++ [(DElem.mk (DKey.mk 0 0 0) 0 0 (a_ #[]))]).length:Int)).bind fun s2 =>
       (idx (over (z1 ++ [(DElem.mk (DKey.mk 0 0 0) 0 0 (a_ #[]))]) ((IntKind.i64.wrap (r6 + 1)).toNat) (s2.take s1.length)) r6).bind fun e4 =>
       some (((over (z1 ++ [(DElem.mk (DKey.mk 0 0 0) 0 0 (a_ #[]))]) ((IntKind.i64.wrap (r6 + 1)).toNat) (s2.take s1.length)).set r6.toNat (DElem.mk p1 p3 0 p2)),0)
     | .inr q=>some q
end Go.Proofs.YtaoocidchclpnaaGreat
