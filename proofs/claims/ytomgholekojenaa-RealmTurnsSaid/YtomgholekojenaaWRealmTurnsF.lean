/- Pure functions, written by walkgen.py out of the Go functions of group WRealmTurns. Their conditions: none. -/
import Derived.Test.YtomgholekojenaaTurnF
import Derived.Test.YtomgholekojenaaEqsF
import Derived.Test.YtomgholekojenaaSameF
import Derived.Test.YtomgholekojenaaMap
namespace Go.Proofs.Ytomgholekojenaa
set_option linter.unusedVariables false

def annalkeep_RealmTurns (F : Nat) (p0 : DBook) (p1 : Int) : Option (Bool) :=
  (annalkeep_book).bind fun r1 =>
  (realm_Down F r1 0).bind fun r2 =>
  (realm_Put F r2.1 (DKey.mk 0 0 0) (ByteArray.mk #[97]) 1).bind fun r3 =>
  bif ((r2.2 != 0) || (r3.2 != 10)) then
    some false
  else
    (realm_Down F p0 p1).bind fun r4 =>
    bif (r4.2 != 0) then
      (annalref_SameBook F r4.1 (DBook.mk [] (DA16.mk 0 0 0 0 0 0 0 0 0 0 0 0 0 0 0 0) (DA16.mk 0 0 0 0 0 0 0 0 0 0 0 0 0 0 0 0))).bind fun r5 =>
      some r5
    else
      (realm_Up F r4.1 p1).bind fun r6 =>
      (realm_Up F r6.1 p1).bind fun r7 =>
      (
        bif (r6.2 == 0) then
            bif (r7.2 == 10) then
              (annalref_SameBook F r6.1 p0).bind fun r8 =>
              bif r8 then
                (idx r4.1.roles.list p1).bind fun e1 =>
                bif (e1 == 2) then
                  (realm_Check F r4.1).bind fun r9 =>
                  some (r9 == 0)
                else
                  some false
              else
                some false
            else
              some false
          else
            some false : Option (Bool)).bind fun z1 =>
      some z1

end Go.Proofs.Ytomgholekojenaa
