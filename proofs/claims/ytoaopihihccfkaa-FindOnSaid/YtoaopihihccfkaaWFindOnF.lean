/- Pure functions, written by walkgen.py out of the Go functions of group WFindOn. Their conditions: none. -/
import Derived.Test.YtoaopihihccfkaaFindSF
import Derived.Test.YtoaopihihccfkaaFindFF
import Derived.Test.YtoaopihihccfkaaBuildF
import Derived.Test.YtoaopihihccfkaaEqsF
import Derived.Test.YtoaopihihccfkaaMap
namespace Go.Proofs.Ytoaopihihccfkaa
set_option linter.unusedVariables false

def annalkeep_FindOn (F : Nat) (p0 : DTree) (p1 : Int) : Option (Bool) :=
  (annalkeep_at1 1 (ByteArray.mk #[97])).bind fun r1 =>
  (annalkeep_at1 2 (ByteArray.mk #[98])).bind fun r2 =>
  (annalkeep_of F [r1, r2]).bind fun r3 =>
  (find_From F r3 (DSpot.mk (DKey.mk 0 0 2) 0) 9).bind fun r4 =>
  (
    bif (r4.2 != 0) then
        some true
      else
        (annalkeep_at1 2 (ByteArray.mk #[98])).bind fun r5 =>
        (slices_Equal_Elem F r4.1 [r5]).bind fun r6 =>
        some (!r6) : Option (Bool)).bind fun z1 =>
  bif z1 then
    some false
  else
    (tree_All F p0).bind fun r7 =>
    (annalkeep_Within p1 20).bind fun r8 =>
    (iter (σ := (List DElem) × Int × Int × Int × Int × Int) (ρ := ((List DElem)) ⊕ Bool) (fun x => match x with
      | (x1, x2, x3, x4, x5, x6) =>
        bif decide (x6 < (IntKind.i64.wrap ((r7.1.length : Int) + 1))) then
            (find_From F p0 (DSpot.mk (DKey.mk x2 x3 x4) x5) (IntKind.i64.wrap (r8 + 1))).bind fun r10 =>
            bif (r10.2 != r7.2) then
              some (.inr (.inr false))
            else
              (grow 56 x1 r10.1).bind fun _ =>
              bif decide ((r10.1.length : Int) < (IntKind.i64.wrap (r8 + 1))) then
                some (.inr (.inl (x1 ++ r10.1)))
              else
                (idx r10.1 (IntKind.i64.wrap ((r10.1.length : Int) - 1))).bind fun e1 =>
                (elem_Spot e1).bind fun r11 =>
                (find_Spot F p0 r11).bind fun r12 =>
                (
                  bif (r12.2 != 0) then
                      some true
                    else
                      (idx r10.1 (IntKind.i64.wrap ((r10.1.length : Int) - 1))).bind fun e2 =>
                      some (!(r12.1 == e2)) : Option (Bool)).bind fun z3 =>
                bif z3 then
                  some (.inr (.inr false))
                else
                  some (.inl ((x1 ++ r10.1), r11.key.pfs, r11.key.obj, r11.key.off, IntKind.i64.wrap (r11.made + 1), IntKind.i64.wrap (x6 + 1)))
          else
            some (.inr (.inl x1))) F ([], 0, 0, 0, 0, 0)).bind fun z => match z with
      | .inl z2 =>
        (slices_Equal_Elem F z2 r7.1).bind fun r13 =>
        some r13
      | .inr q => some q

end Go.Proofs.Ytoaopihihccfkaa
