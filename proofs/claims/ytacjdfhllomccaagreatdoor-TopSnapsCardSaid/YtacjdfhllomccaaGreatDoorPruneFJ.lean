/- Pure functions, written by walkgen.py out of the Go functions of group Prune. Their conditions: none. -/
import Derived.Test.YtacjdfhllomccaaGreatDoorRunFJ
import Derived.Test.YtacjdfhllomccaaGreatDoorMapJ
namespace Go.Proofs.YtacjdfhllomccaaGreatDoor
set_option linter.unusedVariables false
def prune_times (F : Nat) (p0 : (List Int)) : Option (Int) :=
 bif decide ((20 : Int) < (p0.length : Int)) then
  some 2
 else
  (iter (σ := Int) (ρ := (Unit) ⊕ Int) (fun x1 =>
   bif decide (x1 < (p0.length : Int)) then
    (idx p0 x1).bind fun e1 =>
    bif ((decide (e1 < 0)) || (decide ((2147483647 : Int) < e1))) then
     some (.inr (.inr 9))
    else
     some (.inl (IntKind.i64.wrap (x1 + 1)))
    else
     some (.inr (.inl ()))) F 0).bind fun z => match z with
   | .inl _ =>
    some 0
   | .inr q => some q
def prune_stays (F : Nat) (p0 : DElem) (p1 : (List Int)) : Option (Bool) :=
 bif (p0.gone == 0) then
  some true
 else
  (iter (σ := Int) (ρ := (Unit) ⊕ Bool) (fun x1 =>
   bif decide (x1 < (p1.length : Int)) then
    (idx p1 x1).bind fun e1 =>
    (elem_Live p0 e1).bind fun r1 =>
    bif r1 then
     some (.inr (.inr true))
    else
     some (.inl (IntKind.i64.wrap (x1 + 1)))
    else
     some (.inr (.inl ()))) F 0).bind fun z => match z with
   | .inl _ =>
    some false
   | .inr q => some q
def prune_Kept (F : Nat) (p0 : (List DElem)) (p1 : (List Int)) : Option (((List DElem)) × Int) :=
 (run_Check F p0).bind fun r1 =>
 bif (r1 != 0) then
  some ([], r1)
 else
  (prune_times F p1).bind fun r2 =>
  bif (r2 != 0) then
   some ([], r2)
  else
   (iter (σ := (List DElem) × Int) (ρ := (List DElem)) (fun x => match x with
    | (x1, x2) =>
     bif decide (x2 < (p0.length : Int)) then
      (
       (idx p0 x2).bind fun e1 =>
        (prune_stays F e1 p1).bind fun r4 =>
        bif r4 then
         (grow 56 x1 [e1]).bind fun _ =>
         some (x1 ++ [e1])
        else
         some x1 : Option ((List DElem))).bind fun z2 =>
      some (.inl (z2, IntKind.i64.wrap (x2 + 1)))
      else
       some (.inr x1)) F ([], 0)).bind fun z1 =>
   some (z1, 0)
end Go.Proofs.YtacjdfhllomccaaGreatDoor
