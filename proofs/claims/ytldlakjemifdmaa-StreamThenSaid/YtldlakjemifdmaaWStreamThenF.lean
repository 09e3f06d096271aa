/- Pure functions, written by walkgen.py out of the Go functions of group WStreamThen. Their conditions: none. -/
import Derived.Test.YtldlakjemifdmaaStreamF
import Derived.Test.YtldlakjemifdmaaEqsF
import Derived.Test.YtldlakjemifdmaaMap
namespace Go.Proofs.Ytldlakjemifdmaa
set_option linter.unusedVariables false

def annalkeep_StreamThen (F : Nat) (p0 : (List DElem)) (p1 : Int) (p2 : Int) (p3 : Int) (p4 : DKey) : Option (Bool) :=
  (stream_Upto F [(DElem.mk (DKey.mk 0 0 0) 1 3 (ByteArray.mk #[]))] 0 2).bind fun r1 =>
  (
    bif (r1.2 != 0) then
        some true
      else
        (slices_Equal_Elem F r1.1 [(DElem.mk (DKey.mk 0 0 0) 1 0 (ByteArray.mk #[]))]).bind fun r2 =>
        some (!r2) : Option (Bool)).bind fun z1 =>
  bif z1 then
    some false
  else
    (stream_Upto F p0 p1 p2).bind fun r3 =>
    bif (r3.2 != 0) then
      some ((r3.1.length : Int) == 0)
    else
      (run_At F p0 (DKey.mk p1 p4.obj p4.off) (if p2 < p3 then p2 else p3)).bind fun r4 =>
      (run_At F r3.1 (DKey.mk p1 p4.obj p4.off) (if p2 < p3 then p2 else p3)).bind fun r5 =>
      (
        bif (r4.2 == r5.2) then
            bif (seq r4.1.val r5.1.val) then
              bif (r4.1.made == r5.1.made) then
                (run_Check F r3.1).bind fun r6 =>
                some (r6 == 0)
              else
                some false
            else
              some false
          else
            some false : Option (Bool)).bind fun z2 =>
      some z2

end Go.Proofs.Ytldlakjemifdmaa
