/- Pure functions of group Node. Conditions: none. -/
import Derived.Test.YtaoocidchclpnaaGreatEqLY
import Derived.Test.YtaoocidchclpnaaGreatMapY
namespace Go.Proofs.YtaoocidchclpnaaGreat
set_option linter.unusedVariables false
def oO (F:Nat) (p0:DNode) : Option (Int) :=
 bif ((decide ((0:Int) < (p0.kids.length:Int))) || ((decide ((0:Int) < (p0.seps.length:Int))) || (decide ((0:Int) < (p0.tids.length:Int))))) then
  some 3
 else
  bif decide ((8:Int) < (p0.elems.length:Int)) then
   some 2
  else
   (iter (σ:=Int) (ρ:=(Unit) ⊕ Int) (fun x1 =>
    bif decide (x1 < (p0.elems.length:Int)) then
     (idx p0.elems x1).bind fun e1 =>
     (j7 e1).bind fun r1 =>
     bif (r1 != 0) then
      some (.inr (.inr r1))
     else
      (
       bif decide ((0:Int) < x1) then
        (idx p0.elems (IntKind.i64.wrap (x1 - 1))).bind fun e2 =>
        (jf e2).bind fun r2 =>
        (jf e1).bind fun r3 =>
        (jp r2 r3).bind fun r4 =>
        some (decide ((0:Int)≤r4))
        else
         some false:Option (Bool)).bind fun z1 =>
      bif z1 then
       some (.inr (.inr 3))
      else
       some (.inl (IntKind.i64.wrap (x1 + 1)))
     else
      some (.inr (.inl ()))) F 0).bind fun z=>match z with
    | .inl _ =>
     some 0
    | .inr q=>some q
def nZ (F:Nat) (p0:DNode) : Option (Int) :=
 bif ((decide ((0:Int) < (p0.elems.length:Int))) || ((decide ((p0.kids.length:Int) < 2)) || (((p0.seps.length:Int) != (IntKind.i64.wrap ((p0.kids.length:Int) - 1))) || ((p0.tids.length:Int) != (p0.kids.length:Int))))) then
  some 3
 else
  bif decide ((8:Int) < (p0.kids.length:Int)) then
   some 2
  else
   (iter (σ:=Int) (ρ:=(Unit) ⊕ Int) (fun x1 =>
    bif decide (x1 < (p0.kids.length:Int)) then
     (idx p0.kids x1).bind fun e1 =>
     bif ((decide (e1 < 0)) || (decide ((400:Int)≤e1))) then
      some (.inr (.inr 1))
     else
      (idx p0.tids x1).bind fun e2 =>
      bif ((decide (e2 < 0)) || (decide ((2147483647:Int) < e2))) then
       some (.inr (.inr 9))
      else
       some (.inl (IntKind.i64.wrap (x1 + 1)))
     else
      some (.inr (.inl ()))) F 0).bind fun z=>match z with
    | .inl _ =>
     (iter (σ:=Int) (ρ:=(Unit) ⊕ Int) (fun x2 =>
      bif decide (x2 < (p0.seps.length:Int)) then
       (idx p0.seps x2).bind fun e3 =>
       (j7 (DElem.mk e3.key e3.made 0 (ByteArray.mk #[]))).bind fun r1 =>
       bif (r1 != 0) then
        some (.inr (.inr r1))
       else
        (
         bif decide ((0:Int) < x2) then
          (idx p0.seps (IntKind.i64.wrap (x2 - 1))).bind fun e4 =>
          (jp e4 e3).bind fun r2 =>
          some (decide ((0:Int)≤r2))
          else
           some false:Option (Bool)).bind fun z1 =>
        bif z1 then
         some (.inr (.inr 3))
        else
         some (.inl (IntKind.i64.wrap (x2 + 1)))
       else
        some (.inr (.inl ()))) F 0).bind fun z=>match z with
      | .inl _ =>
       some 0
      | .inr q=>some q
    | .inr q=>some q
def l8 (F:Nat) (p0:DNode) : Option (Int) :=
 bif (p0.kind == 0) then
  bif ((decide ((0:Int) < (p0.elems.length:Int))) || ((decide ((0:Int) < (p0.kids.length:Int))) || ((decide ((0:Int) < (p0.seps.length:Int))) || (decide ((0:Int) < (p0.tids.length:Int)))))) then
   some 3
  else
   some 0
 else
  bif (p0.kind == 1) then
   (oO F p0).bind fun r1 =>
   some r1
  else
   bif (p0.kind == 2) then
    (nZ F p0).bind fun r2 =>
    some r2
   else
    some 3
def jl (F:Nat) (p0:DNode) : Option (Int) :=
 (iter (σ:=Int × Int) (ρ:=Int) (fun x=>match x with
  | (x1,x2) =>
   bif decide (x2 < (p0.elems.length:Int)) then
    (idx p0.elems x2).bind fun e1 =>
    (nC e1).bind fun r1 =>
    some (.inl ((if x1 < r1 then r1 else x1),IntKind.i64.wrap (x2 + 1)))
    else
     some (.inr x1)) F (0,0)).bind fun z1 =>
 (iter (σ:=Int × Int) (ρ:=Int) (fun x=>match x with
  | (x3,x4) =>
   bif decide (x4 < (p0.tids.length:Int)) then
    (idx p0.tids x4).bind fun e2 =>
    some (.inl ((if x3 < e2 then e2 else x3),IntKind.i64.wrap (x4 + 1)))
    else
     some (.inr x3)) F (z1,0)).bind fun z2 =>
 some z2
def mE (F:Nat) (p0:DNode) (p1:DSpot) : Option (Int) :=
 (iter (σ:=Int) (ρ:=Int) (fun x1 =>
  (
   bif decide (x1 < (p0.seps.length:Int)) then
    (idx p0.seps x1).bind fun e1 =>
    (jp e1 p1).bind fun r1 =>
    some (decide (r1≤0))
    else
     some false:Option (Bool)).bind fun z2 =>
   bif z2 then
    some (.inl (IntKind.i64.wrap (x1 + 1)))
   else
    some (.inr x1)) F 0).bind fun z1 =>
 some z1
end Go.Proofs.YtaoocidchclpnaaGreat
