/- Pure functions, written by walkgen.py out of the Go functions of group WRunPieces. Their conditions: none. -/
import Derived.Test.YtiaoncjkfgebdaaRunF
import Derived.Test.YtiaoncjkfgebdaaEqsF
import Derived.Test.YtiaoncjkfgebdaaMap
namespace Go.Proofs.Ytiaoncjkfgebdaa
set_option linter.unusedVariables false

def annalkeep_RunPieces (F : Nat) (p0 : (List DElem)) (p1 : Int) (p2 : Int) (p3 : DKey) : Option (Bool) :=
  (
    (annalkeep_at1 1 (ByteArray.mk #[97])).bind fun r1 =>
      (annalkeep_at1 1 (ByteArray.mk #[98])).bind fun r2 =>
      (run_Check F [r1, r2]).bind fun r3 =>
      bif (r3 != 3) then
        some true
      else
        (run_Check F ([] : List DElem)).bind fun r4 =>
        some (r4 != 0) : Option (Bool)).bind fun z1 =>
  bif z1 then
    some false
  else
    (run_Check F p0).bind fun r5 =>
    bif (r5 != 0) then
      some true
    else
      (annalkeep_Within p1 (IntKind.i64.wrap ((p0.length : Int) + 1))).bind fun r6 =>
      (annalkeep_Within p2 (IntKind.i64.wrap ((p0.length : Int) + 1))).bind fun r7 =>
      (
        (grow 56 ([] : List DElem) p0).bind fun _ =>
          some (([] : List DElem) ++ p0) : Option ((List DElem))).bind fun z2 =>
      (
        (
            (iter (σ := Int) (ρ := (Unit) ⊕ Int) (fun x1 =>
                  bif decide (x1 < (z2.length : Int)) then
                      (idx z2 x1).bind fun e1 =>
                      bif (e1.key == p3) then
                        some (.inr (.inr x1))
                      else
                        some (.inl (IntKind.i64.wrap (x1 + 1)))
                    else
                      some (.inr (.inl ()))) F 0).bind fun z => match z with
                | .inl _ =>
                  some (-1)
                | .inr q => some q : Option (Int)).bind fun z4 =>
          bif (z4 == (-1)) then
            some z2
          else
            (iter (σ := (List DElem) × Int × Int) (ρ := (List DElem) × Int) (fun x => match x with
              | (x2, x3, x4) =>
                bif decide (x4 < (x2.length : Int)) then
                    (
                      (idx x2 x4).bind fun e2 =>
                        bif (!(e2.key == p3)) then
                          (idx x2 x3).bind fun e3 =>
                          some ((x2.set x3.toNat e2), IntKind.i64.wrap (x3 + 1))
                        else
                          some (x2, x3) : Option ((List DElem) × Int)).bind fun z => match z with
                      | (z7, z8) =>
                        some (.inl (z7, z8, IntKind.i64.wrap (x4 + 1)))
                  else
                    some (.inr (x2, x3))) F (z2, z4, IntKind.i64.wrap (z4 + 1))).bind fun z => match z with
              | (z5, z6) =>
                (lslice z5 z6 (z5.length : Int)).bind fun s2 =>
                (lslice (over z5 z6.toNat (List.replicate s2.length ((DElem.mk (DKey.mk 0 0 0) 0 0 (ByteArray.mk #[])) : DElem))) 0 z6).bind fun s3 =>
                some s3 : Option ((List DElem))).bind fun z3 =>
      (lslice p0 (if r7 < r6 then r7 else r6) (if r6 < r7 then r7 else r6)).bind fun s4 =>
      (run_Last F s4).bind fun r10 =>
      (run_Last F p0).bind fun r11 =>
      (
        bif (r10.2 == 0) then
            bif (r11.2 == 0) then
              bif decide (r10.1 ≤ r11.1) then
                (run_Check F z3).bind fun r12 =>
                some (r12 == 0)
              else
                some false
            else
              some false
          else
            some false : Option (Bool)).bind fun z9 =>
      some z9

end Go.Proofs.Ytiaoncjkfgebdaa
