/- Pure functions, written by walkgen.py out of the Go functions of group WChangeUndone. Their conditions: none. -/
import Derived.Test.YtiaoncjkfgebdaaChangeF
import Derived.Test.YtiaoncjkfgebdaaEqsF
import Derived.Test.YtiaoncjkfgebdaaOps
namespace Go.Proofs.Ytiaoncjkfgebdaa
set_option linter.unusedVariables false

def annalkeep_ChangeUndone (F : Nat) (p0 : (List DElem)) (p1 : (List DChange)) (p2 : Int) : Option (Bool) :=
  (change_Do F ([] : List DElem) [(DChange.mk (DKey.mk 0 0 0) false true (ByteArray.mk #[]) (ByteArray.mk #[98]))] 1).bind fun r1 =>
  bif ((r1.2 != 0) || ((r1.1.length : Int) != 1)) then
    some false
  else
    (change_Do F p0 p1 p2).bind fun r2 =>
    bif (r2.2 != 0) then
      some ((r2.1.length : Int) == 0)
    else
      (change_Between F r2.1 (IntKind.i64.wrap (p2 - 1)) p2).bind fun r3 =>
      (change_Back F p1).bind fun r4 =>
      bif ((r3.2 != 0) || (r4.2 != 0)) then
        some false
      else
        (change_Do F r2.1 r4.1 (if (2147483647 : Int) < (IntKind.i64.wrap (p2 + 1)) then 2147483647 else IntKind.i64.wrap (p2 + 1))).bind fun r5 =>
        bif (r5.2 != 0) then
          some (r5.2 == 8)
        else
          (iter (σ := Int) (ρ := (Unit) ⊕ Bool) (fun x1 =>
              bif decide (x1 < (p1.length : Int)) then
                  (idx p1 x1).bind fun e1 =>
                  (run_At F p0 e1.key 2147483647).bind fun r6 =>
                  (run_At F r5.1 e1.key 2147483647).bind fun r7 =>
                  bif ((r6.2 != r7.2) || (!(seq r6.1.val r7.1.val))) then
                    some (.inr (.inr false))
                  else
                    some (.inl (IntKind.i64.wrap (x1 + 1)))
                else
                  some (.inr (.inl ()))) F 0).bind fun z => match z with
            | .inl _ =>
              (run_Last F p0).bind fun r8 =>
              (
                bif (r8.2 == 0) then
                    bif (r8.1 == p2) then
                      some true
                    else
                      (slices_Equal_Change F r3.1 p1).bind fun r9 =>
                      some r9
                  else
                    some false : Option (Bool)).bind fun z1 =>
              some z1
            | .inr q => some q

end Go.Proofs.Ytiaoncjkfgebdaa
