/- Pure functions, written by walkgen.py out of the Go functions of group Run. Their conditions: none. -/
import Derived.Test.YtaodaihoglcinadKeyF
import Derived.Test.YtaodaihoglcinadMap
namespace Go.Proofs.Ytaodaihoglcinad
set_option linter.unusedVariables false

def run_Check (F : Nat) (p0 : (List DElem)) : Option (Int) :=
  bif decide ((400 : Int) < (p0.length : Int)) then
    some 2
  else
    (iter (σ := Int) (ρ := (Unit) ⊕ Int) (fun x1 =>
        bif decide (x1 < (p0.length : Int)) then
            (
              (idx p0 x1).bind fun e1 =>
                (elem_Check e1).bind fun r1 =>
                bif (r1 != 0) then
                  some (.inr (.inr (.inr r1)))
                else
                  bif (x1 == 0) then
                    some (.inl ())
                  else
                    (idx p0 (IntKind.i64.wrap (x1 - 1))).bind fun e2 =>
                    (
                      (elem_Spot e2).bind fun r2 =>
                        (elem_Spot e1).bind fun r3 =>
                        (key_CmpSpot r2 r3).bind fun r4 =>
                        bif decide ((0 : Int) ≤ r4) then
                          some true
                        else
                          bif (e2.key == e1.key) then
                            bif (e2.gone == 0) then
                              some true
                            else
                              some (decide (e1.made < e2.gone))
                          else
                            some false : Option (Bool)).bind fun z1 =>
                    bif z1 then
                      some (.inr (.inr (.inr 3)))
                    else
                      some (.inl ()) : Option ((Unit) ⊕ ((Int) ⊕ ((Unit) ⊕ Int)))).bind fun z => match z with
              | .inl _ =>
                some (.inl (IntKind.i64.wrap (x1 + 1)))
              | .inr q => some q
          else
            some (.inr (.inl ()))) F 0).bind fun z => match z with
      | .inl _ =>
        some 0
      | .inr q => some q

def run_Range (F : Nat) (p0 : (List DElem)) (p1 : DKey) (p2 : DKey) (p3 : Int) : Option (((List DElem)) × Int) :=
  (run_Check F p0).bind fun r1 =>
  bif (r1 != 0) then
    some ([], r1)
  else
    (key_Check p1).bind fun r2 =>
    bif (r2 != 0) then
      some ([], r2)
    else
      (key_Check p2).bind fun r3 =>
      bif (r3 != 0) then
        some ([], r3)
      else
        (iter (σ := (List DElem) × Int) (ρ := (List DElem)) (fun x => match x with
          | (x1, x2) =>
            bif decide (x2 < (p0.length : Int)) then
                (
                  (idx p0 x2).bind fun e1 =>
                    (
                      (key_Cmp p1 e1.key).bind fun r5 =>
                        bif decide (r5 ≤ 0) then
                          (key_Cmp e1.key p2).bind fun r6 =>
                          bif decide (r6 ≤ 0) then
                            (elem_Live e1 p3).bind fun r7 =>
                            some r7
                          else
                            some false
                        else
                          some false : Option (Bool)).bind fun z3 =>
                    bif z3 then
                      (grow 56 x1 [e1]).bind fun _ =>
                      some (x1 ++ [e1])
                    else
                      some x1 : Option ((List DElem))).bind fun z2 =>
                some (.inl (z2, IntKind.i64.wrap (x2 + 1)))
              else
                some (.inr x1)) F ([], 0)).bind fun z1 =>
        some (z1, 0)

end Go.Proofs.Ytaodaihoglcinad
