/- Pure functions, written by walkgen.py out of the Go functions of group WUndoTwice. Their conditions: none. -/
import Derived.Test.YtomgholekojenaaUndoF
import Derived.Test.YtomgholekojenaaMap
namespace Go.Proofs.Ytomgholekojenaa
set_option linter.unusedVariables false

def annalkeep_UndoTwice (F : Nat) (p0 : DDisk) (p1 : (List Bool)) : Option (Bool) :=
  (makes 16 (201 : Int)).bind fun u1 =>
  (undo_Recover F (DDisk.mk (List.replicate ((201 : Int).toNat) ((ByteArray.mk #[]) : ByteArray)) [])).bind fun r2 =>
  bif (r2.2 != 11) then
    some false
  else
    (disk_Crash F p0 p1).bind fun r3 =>
    bif (r3.2 != 0) then
      some true
    else
      (undo_Recover F r3.1).bind fun r4 =>
      bif (r4.2 != 0) then
        (annalref_SameDisk F r4.1 (DDisk.mk [] [])).bind fun r5 =>
        some r5
      else
        (undo_Recover F r4.1).bind fun r6 =>
        (
          bif (r6.2 == 0) then
              (annalref_SameDisk F r4.1 r6.1).bind fun r7 =>
              some r7
            else
              some false : Option (Bool)).bind fun z1 =>
        some z1

end Go.Proofs.Ytomgholekojenaa
