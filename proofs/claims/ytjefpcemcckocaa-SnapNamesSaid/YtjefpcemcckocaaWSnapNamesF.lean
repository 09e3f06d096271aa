/- Pure functions, written by walkgen.py out of the Go functions of group WSnapNames. Their conditions: none. -/
import Derived.Test.YtjefpcemcckocaaSnapF
import Derived.Test.YtjefpcemcckocaaEqsF
import Derived.Test.YtjefpcemcckocaaMap
namespace Go.Proofs.Ytjefpcemcckocaa
set_option linter.unusedVariables false

def annalkeep_SnapNames (F : Nat) (p0 : (List DSnap)) (p1 : ByteArray) (p2 : ByteArray) (p3 : Int) (p4 : Int) : Option (Bool) :=
  (snap_Add F ([] : List DSnap) (ByteArray.mk #[97]) 5).bind fun r1 =>
  (
    bif (r1.2 != 0) then
        some true
      else
        (slices_Equal_Snap F r1.1 [(DSnap.mk (ByteArray.mk #[97]) 5)]).bind fun r2 =>
        some (!r2) : Option (Bool)).bind fun z1 =>
  bif z1 then
    some false
  else
    (snap_Add F p0 p1 p3).bind fun r3 =>
    bif (r3.2 != 0) then
      some ((r3.1.length : Int) == 0)
    else
      (snap_Find F r3.1 p1).bind fun r4 =>
      (snap_Drop F r3.1 p1).bind fun r5 =>
      (snap_Find F r5.1 p1).bind fun r6 =>
      (
        bif (r4.2 != 0) then
            some true
          else
            bif (r5.2 != 0) then
              some true
            else
              bif (r4.1 != p3) then
                some true
              else
                bif (r6.2 != 4) then
                  some true
                else
                  (slices_Equal_Snap F r5.1 p0).bind fun r7 =>
                  bif (!r7) then
                    some true
                  else
                    (snap_Check F r3.1).bind fun r8 =>
                    some (r8 != 0) : Option (Bool)).bind fun z2 =>
      bif z2 then
        some false
      else
        (snap_Add F r3.1 p2 p4).bind fun r9 =>
        (snap_Add F p0 p2 p4).bind fun r10 =>
        bif ((r9.2 != 0) || (r10.2 != 0)) then
          some true
        else
          (snap_Add F r10.1 p1 p3).bind fun r11 =>
          (
            bif (r11.2 == 0) then
                (slices_Equal_Snap F r9.1 r11.1).bind fun r12 =>
                some r12
              else
                some false : Option (Bool)).bind fun z3 =>
          some z3

end Go.Proofs.Ytjefpcemcckocaa
