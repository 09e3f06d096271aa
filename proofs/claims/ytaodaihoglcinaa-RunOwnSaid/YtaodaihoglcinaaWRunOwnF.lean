/- Pure functions, written by walkgen.py out of the Go functions of group WRunOwn. Their conditions: none. -/
import Derived.Test.YtaodaihoglcinaaPruneF
import Derived.Test.YtaodaihoglcinaaEqsF
import Derived.Test.YtaodaihoglcinaaMap
namespace Go.Proofs.Ytaodaihoglcinaa
set_option linter.unusedVariables false

def annalkeep_RunOwn (F : Nat) (p0 : (List DElem)) (p1 : DKey) (p2 : ByteArray) (p3 : Int) (p4 : (List Int)) : Option (Bool) :=
  (annalkeep_mark).bind fun r1 =>
  (makes 56 ((p0.length : Int) + 3)).bind fun u1 =>
  (run_Put F p0 p1 p2 p3).bind fun r3 =>
  (run_Cut F p0 p1 p3).bind fun r5 =>
  (run_Range F p0 (DKey.mk 0 0 0) (DKey.mk 15 9 9) p3).bind fun r7 =>
  (prune_Kept F p0 p4).bind fun r9 =>
  (
    (slices_Equal_Elem F p0 p0).bind fun r11 =>
      bif (!r11) then
        some true
      else
        some false : Option (Bool)).bind fun z1 =>
  bif z1 then
    some false
  else
    (grow 56 ([] : List DElem) r3.1).bind fun _ =>
    (grow 56 ([] : List DElem) r5.1).bind fun _ =>
    (grow 56 ([] : List DElem) r7.1).bind fun _ =>
    (grow 56 ([] : List DElem) r9.1).bind fun _ =>
    (slices_Equal_Elem F r3.1 r3.1).bind fun r17 =>
    bif (!r17) then
      some false
    else
      (slices_Equal_Elem F r5.1 r5.1).bind fun r18 =>
      bif (!r18) then
        some false
      else
        (slices_Equal_Elem F r7.1 r7.1).bind fun r19 =>
        bif (!r19) then
          some false
        else
          (slices_Equal_Elem F r9.1 r9.1).bind fun r20 =>
          bif (!r20) then
            some false
          else
            (run_Put F ([] : List DElem) (DKey.mk 0 0 0) (ByteArray.mk #[97]) 1).bind fun r21 =>
            some ((r21.2 == 0) && ((r21.1.length : Int) == 1))

end Go.Proofs.Ytaodaihoglcinaa
