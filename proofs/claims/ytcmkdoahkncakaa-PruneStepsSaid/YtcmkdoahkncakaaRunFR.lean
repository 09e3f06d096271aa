/- Pure functions, written by walkgen.py out of the Go functions of group Run. Their conditions: none. -/
import Derived.Test.YtcmkdoahkncakaaKeyFR
import Derived.Test.YtcmkdoahkncakaaMapR
namespace Go.Proofs.Ytcmkdoahkncakaa
set_option linter.unusedVariables false
def run_Check (F : Nat) (p0 : (List DElem)) : Option (Int) :=
 bif decide ((400 : Int) < (p0.length : Int)) then
  some 2
 else
  (iter (σ := Int) (ρ := (Unit) ⊕ Int) (fun x1 =>
   bif decide (x1 < (p0.length : Int)) then
    (
     (idx p0 x1).bind fun e1 =>
      (elem_Check e1).bind fun r1 =>
      bif (r1 != 0) then
       some (.inr (.inr (.inr r1)))
      else
       bif (x1 == 0) then
        some (.inl ())
       else
        (idx p0 (IntKind.i64.wrap (x1 - 1))).bind fun e2 =>
        (
         (elem_Spot e2).bind fun r2 =>
          (elem_Spot e1).bind fun r3 =>
          (key_CmpSpot r2 r3).bind fun r4 =>
          bif decide ((0 : Int) ≤ r4) then
           some true
          else
           bif (e2.key == e1.key) then
            bif (e2.gone == 0) then
             some true
            else
             some (decide (e1.made < e2.gone))
           else
            some false : Option (Bool)).bind fun z1 =>
        bif z1 then
         some (.inr (.inr (.inr 3)))
        else
         some (.inl ()) : Option ((Unit) ⊕ ((Int) ⊕ ((Unit) ⊕ Int)))).bind fun z => match z with
     | .inl _ =>
      some (.inl (IntKind.i64.wrap (x1 + 1)))
     | .inr q => some q
    else
     some (.inr (.inl ()))) F 0).bind fun z => match z with
   | .inl _ =>
    some 0
   | .inr q => some q
end Go.Proofs.Ytcmkdoahkncakaa
