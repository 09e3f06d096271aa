/- Pure functions, written by walkgen.py out of the Go functions of group WSnapKeeps. Their conditions: none. -/
import Derived.Test.YtaodaihoglcinadTimesF
import Derived.Test.YtaodaihoglcinadPruneF
import Derived.Test.YtaodaihoglcinadEqsF
import Derived.Test.YtaodaihoglcinadMap
namespace Go.Proofs.Ytaodaihoglcinad
set_option linter.unusedVariables false

def annalkeep_SnapKeeps (F : Nat) (p0 : (List DElem)) (p1 : (List DSnap)) (p2 : ByteArray) (p3 : DKey) (p4 : DKey) : Option (Bool) :=
  (snap_Times F [(DSnap.mk (ByteArray.mk #[97]) 5), (DSnap.mk (ByteArray.mk #[98]) 5)]).bind fun r1 =>
  (
    bif (r1.2 != 0) then
        some true
      else
        (slices_Equal_int F r1.1 [5]).bind fun r2 =>
        some (!r2) : Option (Bool)).bind fun z1 =>
  bif z1 then
    some false
  else
    (snap_Times F p1).bind fun r3 =>
    (prune_Kept F p0 r3.1).bind fun r4 =>
    (snap_Find F p1 p2).bind fun r5 =>
    bif ((r3.2 != 0) || ((r4.2 != 0) || (r5.2 != 0))) then
      some true
    else
      (run_Range F p0 p3 p4 r5.1).bind fun r6 =>
      (run_Range F r4.1 p3 p4 r5.1).bind fun r7 =>
      (
        bif (r6.2 == r7.2) then
            (slices_Equal_Elem F r6.1 r7.1).bind fun r8 =>
            some r8
          else
            some false : Option (Bool)).bind fun z2 =>
      some z2

end Go.Proofs.Ytaodaihoglcinad
