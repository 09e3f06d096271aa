/- Pure functions, written by walkgen.py out of the Go functions of group WStreamParts. Their conditions: none. -/
import Derived.Test.YtldlakjemifdmaaStreamF
import Derived.Test.YtldlakjemifdmaaEqsF
import Derived.Test.YtldlakjemifdmaaMap
namespace Go.Proofs.Ytldlakjemifdmaa
set_option linter.unusedVariables false

def annalkeep_StreamParts (F : Nat) (p0 : (List DElem)) (p1 : Int) (p2 : Int) (p3 : Int) : Option (Bool) :=
  (stream_Read F ([] : List DElem) 0 0 0).bind fun r1 =>
  bif ((r1.2 != 0) || ((r1.1.size : Int) != 26)) then
    some false
  else
    (run_Check F p0).bind fun r2 =>
    bif (r2 != 0) then
      some true
    else
      (annalkeep_Within p1 16).bind fun r3 =>
      (annalkeep_Within p2 40).bind fun r4 =>
      (annalkeep_Within p3 40).bind fun r5 =>
      (stream_Upto F p0 r3 (if r4 < r5 then r5 else r4)).bind fun r6 =>
      (stream_Read F p0 r3 0 (if r4 < r5 then r5 else r4)).bind fun r7 =>
      (stream_Read F p0 r3 0 (if r5 < r4 then r5 else r4)).bind fun r8 =>
      (stream_Read F p0 r3 (if r5 < r4 then r5 else r4) (if r4 < r5 then r5 else r4)).bind fun r9 =>
      bif ((r6.2 != 0) || ((r7.2 != 0) || ((r8.2 != 0) || (r9.2 != 0)))) then
        some false
      else
        (stream_Feed F ([] : List DElem) r7.1).bind fun r10 =>
        (stream_Feed F ([] : List DElem) r8.1).bind fun r11 =>
        (stream_Feed F r11.1 r9.1).bind fun r12 =>
        (
          bif (r10.2 == 0) then
              bif (r11.2 == 0) then
                bif (r12.2 == 0) then
                  (slices_Equal_Elem F r10.1 r6.1).bind fun r13 =>
                  bif r13 then
                    (slices_Equal_Elem F r12.1 r6.1).bind fun r14 =>
                    some r14
                  else
                    some false
                else
                  some false
              else
                some false
            else
              some false : Option (Bool)).bind fun z1 =>
        some z1

end Go.Proofs.Ytldlakjemifdmaa
