/- Pure functions, written by walkgen.py out of the Go functions of group WTreeDeep. Their conditions: none. -/
import Derived.Test.YtoaopihihccfkaaTreeF
import Derived.Test.YtoaopihihccfkaaMap
namespace Go.Proofs.Ytoaopihihccfkaa
set_option linter.unusedVariables false

def annalkeep_TreeDeep (F : Nat) (p0 : DTree) : Option (Bool) :=
  (tree_New).bind fun r1 =>
  (tree_Depth F r1).bind fun r2 =>
  bif ((r2.1 != 1) || (r2.2 != 0)) then
    some false
  else
    (tree_All F p0).bind fun r3 =>
    (tree_Depth F p0).bind fun r4 =>
    bif (r3.2 != 0) then
      some ((r3.2 == r4.2) && (((r3.1.length : Int) == 0) && (r4.1 == 0)))
    else
      (
        bif decide ((1 : Int) < r4.1) then
            (iter (σ := Int × Int) (ρ := Int) (fun x => match x with
              | (x1, x2) =>
                bif decide (x2 < (IntKind.i64.wrap (r4.1 - 1))) then
                    some (.inl (IntKind.i64.wrap (x1 * 4), IntKind.i64.wrap (x2 + 1)))
                  else
                    some (.inr x1)) F (2, 0)).bind fun z2 =>
            some z2
          else
            some 0 : Option (Int)).bind fun z1 =>
      (iter (σ := Int) (ρ := (Unit) ⊕ Bool) (fun x3 =>
          bif decide (x3 < (r3.1.length : Int)) then
              (idx r3.1 (IntKind.i64.wrap (x3 - 1))).bind fun e1 =>
              (elem_Spot e1).bind fun r5 =>
              (idx r3.1 x3).bind fun e2 =>
              (elem_Spot e2).bind fun r6 =>
              (key_CmpSpot r5 r6).bind fun r7 =>
              bif decide ((0 : Int) ≤ r7) then
                some (.inr (.inr false))
              else
                some (.inl (IntKind.i64.wrap (x3 + 1)))
            else
              some (.inr (.inl ()))) F 1).bind fun z => match z with
        | .inl _ =>
          some ((r4.2 == 0) && ((decide ((1 : Int) ≤ r4.1)) && (decide (z1 ≤ (r3.1.length : Int)))))
        | .inr q => some q

end Go.Proofs.Ytoaopihihccfkaa
