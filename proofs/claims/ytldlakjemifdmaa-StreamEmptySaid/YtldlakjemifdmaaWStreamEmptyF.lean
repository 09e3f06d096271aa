/- Pure functions, written by walkgen.py out of the Go functions of group WStreamEmpty. Their conditions: none. -/
import Derived.Test.YtldlakjemifdmaaStreamF
import Derived.Test.YtldlakjemifdmaaEqsF
import Derived.Test.YtldlakjemifdmaaMap
namespace Go.Proofs.Ytldlakjemifdmaa
set_option linter.unusedVariables false

def annalkeep_StreamEmpty (F : Nat) (p0 : (List DElem)) (p1 : (List DElem)) (p2 : Int) (p3 : Int) : Option (Bool) :=
  (annalkeep_at1 1 (ByteArray.mk #[97])).bind fun r1 =>
  (stream_Read F [r1] 0 1 1).bind fun r2 =>
  (stream_Feed F ([] : List DElem) r2.1).bind fun r3 =>
  bif ((r2.2 != 0) || ((r3.2 != 0) || (((r2.1.size : Int) != 26) || ((r3.1.length : Int) != 0)))) then
    some false
  else
    (stream_Read F p0 p2 p3 p3).bind fun r4 =>
    bif (r4.2 != 0) then
      some (seq r4.1 (ByteArray.mk #[]))
    else
      (stream_Feed F p1 r4.1).bind fun r5 =>
      (run_Check F p1).bind fun r6 =>
      bif (r6 != 0) then
        some ((r5.2 != 0) && ((r5.1.length : Int) == 0))
      else
        (
          bif (r5.2 == 0) then
              (slices_Equal_Elem F r5.1 p1).bind fun r7 =>
              some r7
            else
              some false : Option (Bool)).bind fun z1 =>
        some z1

end Go.Proofs.Ytldlakjemifdmaa
