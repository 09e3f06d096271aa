/- Pure functions, written by walkgen.py out of the Go functions of group Feed. Their conditions: none. -/
import Derived.Test.YtfbjmeehmanjnaaRealmFJ
import Derived.Test.YtfbjmeehmanjnaaStreamFJ
import Derived.Test.YtfbjmeehmanjnaaMapJ
namespace Go.Proofs.Ytfbjmeehmanjnaa
set_option linter.unusedVariables false
def realm_Feed (F : Nat) (p0 : DBook) (p1 : ByteArray) : Option (DBook × Int) :=
 (realm_Check F p0).bind fun r1 =>
 bif (r1 != 0) then
  some ((DBook.mk [] (DA16.mk 0 0 0 0 0 0 0 0 0 0 0 0 0 0 0 0) (DA16.mk 0 0 0 0 0 0 0 0 0 0 0 0 0 0 0 0)), r1)
 else
  (stream_Parse F p1).bind fun r3 =>
  bif (r3.2 != 0) then
   some ((DBook.mk [] (DA16.mk 0 0 0 0 0 0 0 0 0 0 0 0 0 0 0 0) (DA16.mk 0 0 0 0 0 0 0 0 0 0 0 0 0 0 0 0)), r3.2)
  else
   (idx p0.roles.list r3.1.pfs).bind fun e1 =>
   bif (e1 != 2) then
    some ((DBook.mk [] (DA16.mk 0 0 0 0 0 0 0 0 0 0 0 0 0 0 0 0) (DA16.mk 0 0 0 0 0 0 0 0 0 0 0 0 0 0 0 0)), 10)
   else
    (idx p0.fed.list r3.1.pfs).bind fun e2 =>
    bif (r3.1.from_ != e2) then
     some ((DBook.mk [] (DA16.mk 0 0 0 0 0 0 0 0 0 0 0 0 0 0 0 0) (DA16.mk 0 0 0 0 0 0 0 0 0 0 0 0 0 0 0 0)), 9)
    else
     (stream_Feed F p0.run p1).bind fun r7 =>
     bif (r7.2 != 0) then
      some ((DBook.mk [] (DA16.mk 0 0 0 0 0 0 0 0 0 0 0 0 0 0 0 0) (DA16.mk 0 0 0 0 0 0 0 0 0 0 0 0 0 0 0 0)), r7.2)
     else
      (idx p0.fed.list r3.1.pfs).bind fun e3 =>
      some ((DBook.mk r7.1 p0.roles (DA16.set p0.fed r3.1.pfs.toNat r3.1.to)), 0)
end Go.Proofs.Ytfbjmeehmanjnaa
