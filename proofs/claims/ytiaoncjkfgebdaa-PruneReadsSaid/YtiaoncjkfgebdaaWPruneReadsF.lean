/- Pure functions, written by walkgen.py out of the Go functions of group WPruneReads. Their conditions: none. -/
import Derived.Test.YtiaoncjkfgebdaaPruneF
import Derived.Test.YtiaoncjkfgebdaaEqsF
import Derived.Test.YtiaoncjkfgebdaaMap
namespace Go.Proofs.Ytiaoncjkfgebdaa
set_option linter.unusedVariables false

def annalkeep_PruneReads (F : Nat) (p0 : (List DElem)) (p1 : (List Int)) (p2 : Int) (p3 : DKey) (p4 : DKey) (p5 : DKey) : Option (Bool) :=
  (prune_Kept F [(DElem.mk (DKey.mk 0 0 1) 1 3 (ByteArray.mk #[]))] [2]).bind fun r1 =>
  bif ((r1.2 != 0) || ((r1.1.length : Int) != 1)) then
    some false
  else
    (prune_Kept F [(DElem.mk (DKey.mk 0 0 1) 1 3 (ByteArray.mk #[]))] [3]).bind fun r2 =>
    bif ((r2.2 != 0) || ((r2.1.length : Int) != 0)) then
      some false
    else
      (prune_Kept F p0 p1).bind fun r3 =>
      bif (r3.2 != 0) then
        some ((r3.1.length : Int) == 0)
      else
        (
          (grow 8 ([] : List Int) p1).bind fun _ =>
            some (([] : List Int) ++ p1) : Option ((List Int))).bind fun z1 =>
        (grow 8 z1 [2147483647]).bind fun _ =>
        (iter (σ := Int) (ρ := (Unit) ⊕ Bool) (fun x1 =>
            bif decide (x1 < ((z1 ++ [2147483647]).length : Int)) then
                (idx (z1 ++ [2147483647]) x1).bind fun e1 =>
                (run_At F p0 p3 e1).bind fun r6 =>
                (run_At F r3.1 p3 e1).bind fun r7 =>
                (run_Range F p0 p4 p5 e1).bind fun r8 =>
                (run_Range F r3.1 p4 p5 e1).bind fun r9 =>
                (
                  bif (!(r6.1 == r7.1)) then
                      some true
                    else
                      bif (r6.2 != r7.2) then
                        some true
                      else
                        (slices_Equal_Elem F r8.1 r9.1).bind fun r10 =>
                        bif (!r10) then
                          some true
                        else
                          some (r8.2 != r9.2) : Option (Bool)).bind fun z2 =>
                bif z2 then
                  some (.inr (.inr false))
                else
                  some (.inl (IntKind.i64.wrap (x1 + 1)))
              else
                some (.inr (.inl ()))) F 0).bind fun z => match z with
          | .inl _ =>
            (prune_Kept F r3.1 p1).bind fun r11 =>
            (
              bif (r11.2 != 0) then
                  some true
                else
                  (slices_Equal_Elem F r3.1 r11.1).bind fun r12 =>
                  some (!r12) : Option (Bool)).bind fun z3 =>
            bif z3 then
              some false
            else
              bif decide ((20 : Int) ≤ (p1.length : Int)) then
                some true
              else
                (
                  (grow 8 ([] : List Int) p1).bind fun _ =>
                    some (([] : List Int) ++ p1) : Option ((List Int))).bind fun z4 =>
                (annalkeep_Within p2 100).bind fun r15 =>
                (grow 8 z4 [r15]).bind fun _ =>
                (prune_Kept F p0 (z4 ++ [r15])).bind fun r16 =>
                (
                  bif (r16.2 == 0) then
                      (
                        (
                            (iter (σ := Int) (ρ := (Unit) ⊕ Int) (fun x2 =>
                                  bif decide (x2 < (r3.1.length : Int)) then
                                      (idx r3.1 x2).bind fun e2 =>
                                      (
                                        (slices_Contains_Elem F r16.1 e2).bind fun r17 =>
                                          some (!r17) : Option (Bool)).bind fun z8 =>
                                      bif z8 then
                                        some (.inr (.inr x2))
                                      else
                                        some (.inl (IntKind.i64.wrap (x2 + 1)))
                                    else
                                      some (.inr (.inl ()))) F 0).bind fun z => match z with
                                | .inl _ =>
                                  some (-1)
                                | .inr q => some q : Option (Int)).bind fun z7 =>
                          some (decide ((0 : Int) ≤ z7)) : Option (Bool)).bind fun z6 =>
                      some (!z6)
                    else
                      some false : Option (Bool)).bind fun z5 =>
                some z5
          | .inr q => some q

end Go.Proofs.Ytiaoncjkfgebdaa
