/- Pure functions, written by walkgen.py out of the Go functions of group WUndoCounts. Their conditions: none. -/
import Derived.Test.YtomgholekojenaaStepF
import Derived.Test.YtomgholekojenaaMap
namespace Go.Proofs.Ytomgholekojenaa
set_option linter.unusedVariables false

def annalkeep_UndoCounts (F : Nat) (p0 : DDisk) (p1 : ByteArray) (p2 : (List DWrite)) : Option (Bool) :=
  (undo_Head F 3 (ByteArray.mk #[97, 98])).bind fun r1 =>
  (makes 16 (201 : Int)).bind fun u1 =>
  (idx (List.replicate ((201 : Int).toNat) ((ByteArray.mk #[]) : ByteArray)) 0).bind fun e1 =>
  (undo_Seq F (DDisk.mk ((List.replicate ((201 : Int).toNat) ((ByteArray.mk #[]) : ByteArray)).set ((0 : Int).toNat) r1.1) [])).bind fun r3 =>
  bif ((r1.2 != 0) || ((r3.2.2 != 0) || ((r3.1 != 3) || (!(seq r3.2.1 (ByteArray.mk #[97, 98])))))) then
    some false
  else
    (undo_Seq F p0).bind fun r4 =>
    (undo_Steps F p0 p1 p2).bind fun r5 =>
    (undo_Steps F p0 p1 ([] : List DWrite)).bind fun r6 =>
    bif ((r4.2.2 != 0) || ((r5.2 != 0) || ((r6.2 != 0) || (((r5.1.length : Int) == 0) || ((r6.1.length : Int) == 0))))) then
      some ((r5.2 != 0) || ((r4.2.2 == 0) && (r6.2 != 0)))
    else
      (idx r5.1 (IntKind.i64.wrap ((r5.1.length : Int) - 1))).bind fun e2 =>
      (undo_Seq F e2).bind fun r7 =>
      (idx r6.1 (IntKind.i64.wrap ((r6.1.length : Int) - 1))).bind fun e3 =>
      (undo_Seq F e3).bind fun r8 =>
      (disk_Sync F p0).bind fun r9 =>
      (
        bif (r7.2.2 == 0) then
            bif (r8.2.2 == 0) then
              bif (r9.2 == 0) then
                bif (r7.1 == (IntKind.i64.wrap (r4.1 + 1))) then
                  bif (r8.1 == r7.1) then
                    bif (seq r7.2.1 p1) then
                      bif (seq r8.2.1 p1) then
                        (idx r6.1 (IntKind.i64.wrap ((r6.1.length : Int) - 1))).bind fun e4 =>
                        (lslice e4.pages 1 (e4.pages.length : Int)).bind fun s1 =>
                        (lslice r9.1.pages 1 (r9.1.pages.length : Int)).bind fun s2 =>
                        (slices_Equal_string F s1 s2).bind fun r10 =>
                        some r10
                      else
                        some false
                    else
                      some false
                  else
                    some false
                else
                  some false
              else
                some false
            else
              some false
          else
            some false : Option (Bool)).bind fun z1 =>
      some z1

end Go.Proofs.Ytomgholekojenaa
