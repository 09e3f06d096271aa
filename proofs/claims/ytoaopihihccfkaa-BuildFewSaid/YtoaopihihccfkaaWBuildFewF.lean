/- Pure functions, written by walkgen.py out of the Go functions of group WBuildFew. Their conditions: none. -/
import Derived.Test.YtoaopihihccfkaaPackF
import Derived.Test.YtoaopihihccfkaaEqsF
import Derived.Test.YtoaopihihccfkaaMap
namespace Go.Proofs.Ytoaopihihccfkaa
set_option linter.unusedVariables false

def annalkeep_BuildFew (F : Nat) (p0 : DTree) : Option (Bool) :=
  (annalkeep_begun F).bind fun r1 =>
  bif (!r1) then
    some false
  else
    (tree_All F p0).bind fun r2 =>
    (build_Pack F p0).bind fun r3 =>
    bif ((r2.2 != 0) || (r3.2 != 0)) then
      (annalref_SameTree F r3.1 (DTree.mk 0 [])).bind fun r4 =>
      some r4
    else
      (tree_All F r3.1).bind fun r5 =>
      (iter (σ := Int × Int) (ρ := Int) (fun x => match x with
        | (x1, x2) =>
          bif decide (x2 < (p0.nodes.length : Int)) then
              (
                (idx p0.nodes x2).bind fun e1 =>
                  bif (e1.kind != 0) then
                    some (IntKind.i64.wrap (x1 + 1))
                  else
                    some x1 : Option (Int)).bind fun z2 =>
              some (.inl (z2, IntKind.i64.wrap (x2 + 1)))
            else
              some (.inr x1)) F (0, 0)).bind fun z1 =>
      (tree_Depth F r3.1).bind fun r6 =>
      (tree_Depth F p0).bind fun r7 =>
      (
        bif (r5.2 == 0) then
            bif (r6.2 == 0) then
              bif (r7.2 == 0) then
                (slices_Equal_Elem F r5.1 r2.1).bind fun r8 =>
                bif r8 then
                  bif decide ((r3.1.nodes.length : Int) ≤ z1) then
                    some (decide (r6.1 ≤ r7.1))
                  else
                    some false
                else
                  some false
              else
                some false
            else
              some false
          else
            some false : Option (Bool)).bind fun z3 =>
      some z3

end Go.Proofs.Ytoaopihihccfkaa
