/- Pure functions, written by walkgen.py out of the Go functions of group WRunNow. Their conditions: none. -/
import Derived.Test.YtiaoncjkfgebdaaRunF
import Derived.Test.YtiaoncjkfgebdaaEqsF
import Derived.Test.YtiaoncjkfgebdaaOps
namespace Go.Proofs.Ytiaoncjkfgebdaa
set_option linter.unusedVariables false

def annalkeep_RunNow (F : Nat) (p0 : (List DElem)) (p1 : DKey) (p2 : ByteArray) (p3 : Int) (p4 : Int) : Option (Bool) :=
  (annalkeep_at1 1 (ByteArray.mk #[97])).bind fun r1 =>
  (run_Cut F [r1] (DKey.mk 0 0 1) 1).bind fun r2 =>
  bif ((r2.2 != 0) || ((r2.1.length : Int) != 0)) then
    some false
  else
    (run_Put F ([] : List DElem) (DKey.mk 0 0 1) (ByteArray.mk #[97]) 1).bind fun r3 =>
    (
      bif (r3.2 != 0) then
          some true
        else
          (annalkeep_at1 1 (ByteArray.mk #[97])).bind fun r4 =>
          (slices_Equal_Elem F r3.1 [r4]).bind fun r5 =>
          some (!r5) : Option (Bool)).bind fun z1 =>
    bif z1 then
      some false
    else
      (run_Put F p0 p1 p2 p3).bind fun r6 =>
      (
        bif (r6.2 == 0) then
            (run_At F r6.1 p1 (if p4 < p3 then p3 else p4)).bind fun r7 =>
            bif ((r7.2 != 0) || ((!(seq r7.1.val p2)) || (r7.1.gone != 0))) then
              some (.inr false)
            else
              some (.inl ())
          else
            some (.inl ()) : Option ((Unit) ⊕ Bool)).bind fun z => match z with
        | .inl _ =>
          (run_Cut F p0 p1 p3).bind fun r8 =>
          bif (r8.2 != 0) then
            some ((r8.1.length : Int) == 0)
          else
            (run_At F r8.1 p1 (if p4 < p3 then p3 else p4)).bind fun r9 =>
            (
              bif (r9.2 == 4) then
                  (run_Check F r8.1).bind fun r10 =>
                  some (r10 == 0)
                else
                  some false : Option (Bool)).bind fun z2 =>
            some z2
        | .inr q => some q

end Go.Proofs.Ytiaoncjkfgebdaa
