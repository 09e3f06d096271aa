/- Pure functions of group Look. Conditions: none. -/
import Derived.Test.YtfbpiogbhkgieaaGreatTreeFL
import Derived.Test.YtfbpiogbhkgieaaGreatRecL
namespace Go.Proofs.YtfbpiogbhkgieaaGreat
set_option linter.unusedVariables false
def mQ (F:Nat) (p0:DTree) (p1:DElem) : Option (Int × Bool × Int) :=
 (lK F p0).bind fun r1 =>
 bif (r1 != 0) then
  some (0,false,r1)
 else
  (kz p1).bind fun r2 =>
  bif (r2 != 0) then
   some (0,false,r2)
  else
   (
    (nS (σ:=Bool × Int × Int) (ρ:=Bool × Int) (fun rf1 x=>match x with
     | (x1,x2,x3) =>
      (idx p0.nodes x3).bind fun e1 =>
       (iter (σ:=Bool × Int × Int) (ρ:=Bool × Int) (fun x=>match x with
        | (x4,x5,x6) =>
         bif decide (x6 < (e1.elems.length:Int)) then
          (idx e1.elems x6).bind fun e2 =>
          (
           bif x4 then
            some true
            else
             (jb e2).bind fun r3 =>
             (jb p1).bind fun r4 =>
             some (r3 == r4) : Option (Bool)).bind fun z7 =>
          some (.inl (z7,IntKind.i64.wrap (x5 + 1),IntKind.i64.wrap (x6 + 1)))
          else
           some (.inr (x4,x5))) F (x1,x2,0)).bind fun z=>match z with
        | (z5,z6) =>
         (iter (σ:=Bool × Int × Int) (ρ:=Bool × Int) (fun x=>match x with
          | (x7,x8,x9) =>
           bif decide (x9 < (e1.kids.length:Int)) then
            (idx e1.kids x9).bind fun e3 =>
            (rf1 (x7,x8,e3)).bind fun z=>match z with
             | (z10,z11) =>
              some (.inl (z10,z11,IntKind.i64.wrap (x9 + 1)))
            else
             some (.inr (x7,x8))) F (z5,z6,0)).bind fun z=>match z with
          | (z8,z9) =>
           some (z8,z9)) F (false,0,p0.root)).bind fun z=>match z with
     | (z12,z13) =>
      some (z12,z13) : Option (Bool × Int)).bind fun z=>match z with
    | (z1,z2) =>
     some (z2,z1,0)
end Go.Proofs.YtfbpiogbhkgieaaGreat
