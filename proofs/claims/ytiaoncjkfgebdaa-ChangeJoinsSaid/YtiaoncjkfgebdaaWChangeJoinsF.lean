/- Pure functions, written by walkgen.py out of the Go functions of group WChangeJoins. Their conditions: none. -/
import Derived.Test.YtiaoncjkfgebdaaChangeF
import Derived.Test.YtiaoncjkfgebdaaEqsF
import Derived.Test.YtiaoncjkfgebdaaOps
namespace Go.Proofs.Ytiaoncjkfgebdaa
set_option linter.unusedVariables false

def annalkeep_ChangeJoins (F : Nat) (p0 : (List DChange)) (p1 : (List DChange)) (p2 : (List DChange)) : Option (Bool) :=
  (change_Back F [(DChange.mk (DKey.mk 0 0 0) false true (ByteArray.mk #[]) (ByteArray.mk #[98]))]).bind fun r1 =>
  (
    bif (r1.2 != 0) then
        some true
      else
        (slices_Equal_Change F r1.1 [(DChange.mk (DKey.mk 0 0 0) true false (ByteArray.mk #[98]) (ByteArray.mk #[]))]).bind fun r2 =>
        some (!r2) : Option (Bool)).bind fun z1 =>
  bif z1 then
    some false
  else
    (
      (change_Back F p0).bind fun r3 =>
        bif (r3.2 == 0) then
          (change_Then F p0 r3.1).bind fun r4 =>
          bif ((r4.2 != 0) || ((r4.1.length : Int) != 0)) then
            some (.inr false)
          else
            some (.inl ())
        else
          some (.inl ()) : Option ((Unit) ⊕ Bool)).bind fun z => match z with
      | .inl _ =>
        (change_Then F p0 p1).bind fun r5 =>
        (change_Then F p1 p2).bind fun r6 =>
        bif ((r5.2 != 0) || (r6.2 != 0)) then
          some true
        else
          (change_Then F r5.1 p2).bind fun r7 =>
          (change_Then F p0 r6.1).bind fun r8 =>
          (
            bif (r7.2 != 0) then
                some true
              else
                bif (r8.2 != 0) then
                  some true
                else
                  (slices_Equal_Change F r7.1 r8.1).bind fun r9 =>
                  some r9 : Option (Bool)).bind fun z2 =>
          some z2
      | .inr q => some q

end Go.Proofs.Ytiaoncjkfgebdaa
