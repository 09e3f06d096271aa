/- Pure functions, written by walkgen.py out of the Go functions of group WDumpBack. Their conditions: none. -/
import Derived.Test.YtaccejbajgmdnaaDoorRecdF
import Derived.Test.YtaccejbajgmdnaaDoorEqsF
import Derived.Test.YtaccejbajgmdnaaDoorCodeF
import Derived.Test.YtaccejbajgmdnaaDoorMap
namespace Go.Proofs.YtaccejbajgmdnaaDoor
set_option linter.unusedVariables false

def annalkeep_DumpBack (F : Nat) (p0 : (List DElem)) (p1 : Int) : Option (Bool) :=
  (dump_Print F [(DElem.mk (DKey.mk 0 0 0) 1 0 (ByteArray.mk #[97, 32, 98]))]).bind fun r1 =>
  bif ((r1.2 != 0) || (!(seq r1.1 (ByteArray.mk #[48, 32, 48, 32, 48, 32, 49, 32, 48, 32, 97, 37, 50, 48, 98, 10])))) then
    some false
  else
    (dump_Print F p0).bind fun r2 =>
    bif (r2.2 != 0) then
      (
        bif (seq r2.1 (ByteArray.mk #[])) then
            (run_Check F p0).bind fun r3 =>
            some (r2.2 == r3)
          else
            some false : Option (Bool)).bind fun z1 =>
      some z1
    else
      (dump_Read F r2.1).bind fun r4 =>
      (
        bif (r4.2 != 0) then
            some true
          else
            (slices_Equal_Elem F r4.1 p0).bind fun r5 =>
            bif (!r5) then
              some true
            else
              (strings_Count r2.1 (ByteArray.mk #[10])).bind fun r6 =>
              some (r6 != (p0.length : Int)) : Option (Bool)).bind fun z2 =>
      bif z2 then
        some false
      else
        (annalkeep_Within p1 (IntKind.i64.wrap ((r2.1.size : Int) + 1))).bind fun r7 =>
        (sslice r2.1 0 r7).bind fun s1 =>
        (dump_Read F s1).bind fun r8 =>
        (
          bif (!(seq s1 (ByteArray.mk #[]))) then
              (strings_HasSuffix s1 (ByteArray.mk #[10])).bind fun r9 =>
              some (!r9)
            else
              some false : Option (Bool)).bind fun z3 =>
        bif z3 then
          some (r8.2 == 3)
        else
          (strings_Count s1 (ByteArray.mk #[10])).bind fun r10 =>
          (
            bif (r8.2 == 0) then
                (lslice p0 0 r10).bind fun s2 =>
                (slices_Equal_Elem F r8.1 s2).bind fun r11 =>
                some r11
              else
                some false : Option (Bool)).bind fun z4 =>
          some z4

end Go.Proofs.YtaccejbajgmdnaaDoor
