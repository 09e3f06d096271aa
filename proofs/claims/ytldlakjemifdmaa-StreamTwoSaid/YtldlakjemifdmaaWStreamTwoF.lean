/- Pure functions, written by walkgen.py out of the Go functions of group WStreamTwo. Their conditions: none. -/
import Derived.Test.YtldlakjemifdmaaStreamF
import Derived.Test.YtldlakjemifdmaaEqsF
import Derived.Test.YtldlakjemifdmaaMap
namespace Go.Proofs.Ytldlakjemifdmaa
set_option linter.unusedVariables false

def annalkeep_StreamTwo (F : Nat) (p0 : (List DElem)) (p1 : Int) (p2 : Int) : Option (Bool) :=
  (annalkeep_at1 1 (ByteArray.mk #[97])).bind fun r1 =>
  (stream_Read F [r1] 0 0 1).bind fun r2 =>
  (stream_Feed F ([] : List DElem) r2.1).bind fun r3 =>
  bif ((r2.2 != 0) || ((r3.2 != 0) || ((r3.1.length : Int) != 1))) then
    some false
  else
    (run_Check F p0).bind fun r4 =>
    bif (r4 != 0) then
      some true
    else
      (annalkeep_Within p1 40).bind fun r5 =>
      (annalkeep_Within p2 40).bind fun r6 =>
      (stream_Read F p0 0 0 r5).bind fun r7 =>
      (stream_Read F p0 1 0 r6).bind fun r8 =>
      bif ((r7.2 != 0) || (r8.2 != 0)) then
        some false
      else
        (stream_Feed F ([] : List DElem) r7.1).bind fun r9 =>
        (stream_Feed F ([] : List DElem) r8.1).bind fun r10 =>
        bif ((r9.2 != 0) || (r10.2 != 0)) then
          some false
        else
          (stream_Feed F r9.1 r8.1).bind fun r11 =>
          (stream_Feed F r10.1 r7.1).bind fun r12 =>
          (
            bif (r11.2 == 0) then
                bif (r12.2 == 0) then
                  (slices_Equal_Elem F r11.1 r12.1).bind fun r13 =>
                  bif r13 then
                    some ((r11.1.length : Int) == (IntKind.i64.wrap ((r9.1.length : Int) + (r10.1.length : Int))))
                  else
                    some false
                else
                  some false
              else
                some false : Option (Bool)).bind fun z1 =>
          some z1

end Go.Proofs.Ytldlakjemifdmaa
