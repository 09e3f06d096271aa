/- Pure functions, written by walkgen.py out of the Go functions of group WBuildDeep. Their conditions: none. -/
import Derived.Test.YtoaopihihccfkaaPackF
import Derived.Test.YtoaopihihccfkaaBuildF
import Derived.Test.YtoaopihihccfkaaTreeF
import Derived.Test.YtoaopihihccfkaaEqsF
import Derived.Test.YtoaopihihccfkaaMap
namespace Go.Proofs.Ytoaopihihccfkaa
set_option linter.unusedVariables false

def annalkeep_BuildDeep (F : Nat) (p0 : (List DElem)) : Option (Bool) :=
  (annalkeep_at1 1 (ByteArray.mk #[97])).bind fun r1 =>
  (annalkeep_of F [r1]).bind fun r2 =>
  (tree_Depth F r2).bind fun r3 =>
  bif ((r3.1 != 1) || (r3.2 != 0)) then
    some false
  else
    (build_Of F p0).bind fun r4 =>
    bif (r4.2 != 0) then
      (annalref_SameTree F r4.1 (DTree.mk 0 [])).bind fun r5 =>
      some r5
    else
      (tree_Depth F r4.1).bind fun r6 =>
      (iter (σ := Int × Int) (ρ := Int) (fun x => match x with
        | (x1, x2) =>
          bif decide (x2 < (p0.length : Int)) then
              some (.inl (IntKind.i64.wrap (x1 + 1), IntKind.i64.wrap (x2 * 8)))
            else
              some (.inr x1)) F (1, 8)).bind fun z1 =>
      some ((r6.2 == 0) && (r6.1 == z1))

end Go.Proofs.Ytoaopihihccfkaa
