/- Pure functions, written by walkgen.py out of the Go functions of group WRunLate. Their conditions: none. -/
import Derived.Test.YtiaoncjkfgebdaaRunF
import Derived.Test.YtiaoncjkfgebdaaEqsF
import Derived.Test.YtiaoncjkfgebdaaOps
namespace Go.Proofs.Ytiaoncjkfgebdaa
set_option linter.unusedVariables false

def annalkeep_RunLate (F : Nat) (p0 : (List DElem)) (p1 : DKey) (p2 : ByteArray) (p3 : Int) : Option (Bool) :=
  (annalkeep_two).bind fun r1 =>
  (run_Put F r1 (DKey.mk 0 0 0) (ByteArray.mk #[99]) 2).bind fun r2 =>
  bif (r2.2 != 9) then
    some false
  else
    (annalkeep_two).bind fun r3 =>
    (run_Put F r3 (DKey.mk 0 0 0) (ByteArray.mk #[99]) 3).bind fun r4 =>
    (
      bif (r4.2 != 0) then
          some true
        else
          bif ((r4.1.length : Int) != 2) then
            some true
          else
            (idx r4.1 1).bind fun e1 =>
            some (!(seq e1.val (ByteArray.mk #[99]))) : Option (Bool)).bind fun z1 =>
    bif z1 then
      some false
    else
      (run_Last F p0).bind fun r5 =>
      bif (r5.2 != 0) then
        some (r5.1 == 0)
      else
        (run_Put F p0 p1 p2 p3).bind fun r6 =>
        (
          bif (r6.2 == 0) then
              (run_Last F r6.1).bind fun r7 =>
              (run_Put F r6.1 p1 p2 (IntKind.i64.wrap (p3 - 1))).bind fun r8 =>
              bif ((r7.2 != 0) || ((r7.1 != p3) || ((decide (p3 < r5.1)) || (r8.2 != 9)))) then
                some (.inr false)
              else
                some (.inl ())
            else
              some (.inl ()) : Option ((Unit) ⊕ Bool)).bind fun z => match z with
          | .inl _ =>
            (run_Cut F p0 p1 p3).bind fun r9 =>
            bif (r9.2 != 0) then
              some ((r9.1.length : Int) == 0)
            else
              (run_Last F r9.1).bind fun r10 =>
              (run_Cut F r9.1 p1 p3).bind fun r11 =>
              some ((r10.2 == 0) && ((decide (r10.1 ≤ p3)) && (r11.2 == 4)))
          | .inr q => some q

end Go.Proofs.Ytiaoncjkfgebdaa
