/- Pure functions, written by walkgen.py out of the Go functions of group WFindNew. Their conditions: none. -/
import Derived.Test.YtoaopihihccfkaaFindNF
import Derived.Test.YtoaopihihccfkaaBuildF
import Derived.Test.YtoaopihihccfkaaEqsF
import Derived.Test.YtoaopihihccfkaaMap
namespace Go.Proofs.Ytoaopihihccfkaa
set_option linter.unusedVariables false

def annalkeep_FindNew (F : Nat) (p0 : DTree) (p1 : Int) (p2 : Int) : Option (Bool) :=
  (annalkeep_at1 1 (ByteArray.mk #[97])).bind fun r1 =>
  (annalkeep_of F [r1]).bind fun r2 =>
  (find_Since F r2 0).bind fun r3 =>
  bif ((r3.2.2 != 0) || (((r3.1.length : Int) != 1) || (r3.2.1 != 1))) then
    some false
  else
    (tree_All F p0).bind fun r4 =>
    bif (r4.2 != 0) then
      some true
    else
      (iter (σ := Int × Int) (ρ := Int) (fun x => match x with
        | (x1, x2) =>
          bif decide (x2 < (p0.nodes.length : Int)) then
              (
                (idx p0.nodes x2).bind fun e1 =>
                  bif (e1.kind != 0) then
                    some (IntKind.i64.wrap (x1 + 1))
                  else
                    some x1 : Option (Int)).bind fun z2 =>
              some (.inl (z2, IntKind.i64.wrap (x2 + 1)))
            else
              some (.inr x1)) F (0, 0)).bind fun z1 =>
      (find_Since F p0 0).bind fun r5 =>
      (find_Since F p0 2147483647).bind fun r6 =>
      (find_Since F p0 (if p2 < p1 then p2 else p1)).bind fun r7 =>
      (find_Since F p0 (if p1 < p2 then p2 else p1)).bind fun r8 =>
      (
        bif (r5.2.2 != 0) then
            some true
          else
            bif (r6.2.2 != 0) then
              some true
            else
              bif (r7.2.2 != 0) then
                some true
              else
                bif (r8.2.2 != 0) then
                  some true
                else
                  (slices_Equal_Elem F r5.1 r4.1).bind fun r9 =>
                  bif (!r9) then
                    some true
                  else
                    bif decide (z1 < r5.2.1) then
                      some true
                    else
                      bif ((r6.1.length : Int) != 0) then
                        some true
                      else
                        bif (r6.2.1 != 0) then
                          some true
                        else
                          bif decide (r7.2.1 < r8.2.1) then
                            some true
                          else
                            some (decide (z1 < r8.2.1)) : Option (Bool)).bind fun z3 =>
      bif z3 then
        some false
      else
        (iter (σ := Int) (ρ := (Unit) ⊕ Bool) (fun x3 =>
            bif decide (x3 < (r8.1.length : Int)) then
                (idx r8.1 x3).bind fun e2 =>
                (
                  (slices_Contains_Elem F r7.1 e2).bind fun r10 =>
                    bif (!r10) then
                      some true
                    else
                      (elem_Last e2).bind fun r11 =>
                      some (decide (r11 ≤ (if p1 < p2 then p2 else p1))) : Option (Bool)).bind fun z4 =>
                bif z4 then
                  some (.inr (.inr false))
                else
                  some (.inl (IntKind.i64.wrap (x3 + 1)))
              else
                some (.inr (.inl ()))) F 0).bind fun z => match z with
          | .inl _ =>
            some true
          | .inr q => some q

end Go.Proofs.Ytoaopihihccfkaa
