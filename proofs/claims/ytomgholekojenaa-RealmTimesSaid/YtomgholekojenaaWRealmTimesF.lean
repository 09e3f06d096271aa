/- Pure functions, written by walkgen.py out of the Go functions of group WRealmTimes. Their conditions: none. -/
import Derived.Test.YtomgholekojenaaRealmF
import Derived.Test.YtomgholekojenaaMap
namespace Go.Proofs.Ytomgholekojenaa
set_option linter.unusedVariables false

def annalkeep_RealmTimes (F : Nat) (p0 : ByteArray) (p1 : Int) (p2 : Int) : Option (Bool) :=
  (annalkeep_book).bind fun r1 =>
  (annalkeep_Within p1 1000).bind fun r2 =>
  (annalkeep_Within p2 1000).bind fun r3 =>
  (realm_Put F (DBook.mk r1.run (DA16.mk r1.roles.x0 1 r1.roles.x2 r1.roles.x3 r1.roles.x4 r1.roles.x5 r1.roles.x6 r1.roles.x7 r1.roles.x8 r1.roles.x9 r1.roles.x10 r1.roles.x11 r1.roles.x12 r1.roles.x13 r1.roles.x14 r1.roles.x15) r1.fed) (DKey.mk 0 0 1) (ByteArray.mk #[97]) (IntKind.i64.wrap (1 + r2))).bind fun r4 =>
  bif ((r4.2 != 0) || ((r4.1.run.length : Int) != 1)) then
    some false
  else
    (realm_Put F r4.1 (DKey.mk 1 0 0) p0 (IntKind.i64.wrap (1 + r3))).bind fun r5 =>
    bif decide ((40 : Int) < (p0.size : Int)) then
      some (r5.2 == 2)
    else
      (realm_Put F r5.1 (DKey.mk 0 0 2) (ByteArray.mk #[98]) (IntKind.i64.wrap ((IntKind.i64.wrap (1 + r2)) - 1))).bind fun r6 =>
      (
        bif (r5.2 == 0) then
            bif ((r5.1.run.length : Int) == 2) then
              (idx r5.1.run 1).bind fun e1 =>
              bif (e1.made == (IntKind.i64.wrap (1 + r3))) then
                some (r6.2 == 9)
              else
                some false
            else
              some false
          else
            some false : Option (Bool)).bind fun z1 =>
      some z1

end Go.Proofs.Ytomgholekojenaa
