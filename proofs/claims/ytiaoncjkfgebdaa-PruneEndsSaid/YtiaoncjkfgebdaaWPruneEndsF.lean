/- Pure functions, written by walkgen.py out of the Go functions of group WPruneEnds. Their conditions: none. -/
import Derived.Test.YtiaoncjkfgebdaaPruneF
import Derived.Test.YtiaoncjkfgebdaaEqsF
import Derived.Test.YtiaoncjkfgebdaaOps
namespace Go.Proofs.Ytiaoncjkfgebdaa
set_option linter.unusedVariables false

def annalkeep_PruneEnds (F : Nat) (p0 : (List DElem)) : Option (Bool) :=
  (prune_Kept F [(DElem.mk (DKey.mk 0 0 0) 1 2 (ByteArray.mk #[]))] ([] : List Int)).bind fun r1 =>
  bif ((r1.2 != 0) || ((r1.1.length : Int) != 0)) then
    some false
  else
    (prune_Kept F [(DElem.mk (DKey.mk 0 0 0) 1 2 (ByteArray.mk #[]))] [1]).bind fun r2 =>
    bif ((r2.2 != 0) || ((r2.1.length : Int) != 1)) then
      some false
    else
      (prune_Kept F p0 ([] : List Int)).bind fun r3 =>
      bif (r3.2 != 0) then
        (
          (run_Check F p0).bind fun r4 =>
            bif (r3.2 == r4) then
              some ((r3.1.length : Int) == 0)
            else
              some false : Option (Bool)).bind fun z1 =>
        some z1
      else
        (iter (σ := Int) (ρ := (Unit) ⊕ Bool) (fun x1 =>
            bif decide (x1 < (p0.length : Int)) then
                (idx p0 x1).bind fun e1 =>
                (slices_Contains_Elem F r3.1 e1).bind fun r5 =>
                bif (!(r5 == (e1.gone == 0))) then
                  some (.inr (.inr false))
                else
                  some (.inl (IntKind.i64.wrap (x1 + 1)))
              else
                some (.inr (.inl ()))) F 0).bind fun z => match z with
          | .inl _ =>
            (iter (σ := (List Int) × Int) (ρ := (List Int)) (fun x => match x with
              | (x2, x3) =>
                bif decide (x3 < (p0.length : Int)) then
                    (
                      (idx p0 x3).bind fun e2 =>
                        (slices_Contains_int F x2 e2.made).bind fun r7 =>
                        bif (!r7) then
                          (grow 8 x2 [e2.made]).bind fun _ =>
                          some (x2 ++ [e2.made])
                        else
                          some x2 : Option ((List Int))).bind fun z3 =>
                    some (.inl (z3, IntKind.i64.wrap (x3 + 1)))
                  else
                    some (.inr x2)) F ([], 0)).bind fun z2 =>
            bif decide ((20 : Int) < (z2.length : Int)) then
              some true
            else
              (prune_Kept F p0 z2).bind fun r8 =>
              (
                bif (r8.2 == 0) then
                    (slices_Equal_Elem F r8.1 p0).bind fun r9 =>
                    some r9
                  else
                    some false : Option (Bool)).bind fun z4 =>
              some z4
          | .inr q => some q

end Go.Proofs.Ytiaoncjkfgebdaa
