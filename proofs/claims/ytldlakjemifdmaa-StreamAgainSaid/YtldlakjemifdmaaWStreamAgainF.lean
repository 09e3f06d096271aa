/- Pure functions, written by walkgen.py out of the Go functions of group WStreamAgain. Their conditions: none. -/
import Derived.Test.YtldlakjemifdmaaStreamF
import Derived.Test.YtldlakjemifdmaaEqsF
import Derived.Test.YtldlakjemifdmaaMap
namespace Go.Proofs.Ytldlakjemifdmaa
set_option linter.unusedVariables false

def annalkeep_StreamAgain (F : Nat) (p0 : (List DElem)) (p1 : Int) (p2 : Int) (p3 : Int) (p4 : Int) : Option (Bool) :=
  (stream_Feed F ([] : List DElem) (ByteArray.mk #[])).bind fun r1 =>
  bif (r1.2 != 7) then
    some false
  else
    (stream_Read F p0 p1 p2 p3).bind fun r2 =>
    (run_Last F p0).bind fun r3 =>
    bif ((r2.2 != 0) || (r3.2 != 0)) then
      some ((seq r2.1 (ByteArray.mk #[])) || (r3.2 != 0))
    else
      (annalkeep_Within p4 (r2.1.size : Int)).bind fun r4 =>
      (sslice r2.1 0 r4).bind fun s1 =>
      (stream_Feed F p0 s1).bind fun r5 =>
      (scat r2.1 (ByteArray.mk #[0])).bind fun s2 =>
      (stream_Feed F p0 s2).bind fun r6 =>
      bif ((r5.2 == 0) || (r6.2 == 0)) then
        some false
      else
        bif decide (p3 < r3.1) then
          some true
        else
          (stream_Feed F p0 r2.1).bind fun r7 =>
          (
            bif (r7.2 == 0) then
                (slices_Equal_Elem F r7.1 p0).bind fun r8 =>
                some r8
              else
                some false : Option (Bool)).bind fun z1 =>
          some z1

end Go.Proofs.Ytldlakjemifdmaa
