/- Pure functions, written by walkgen.py out of the Go functions of group WUndoWhole. Their conditions: none. -/
import Derived.Test.YtomgholekojenaaStepF
import Derived.Test.YtomgholekojenaaMap
namespace Go.Proofs.Ytomgholekojenaa
set_option linter.unusedVariables false

def annalkeep_UndoWhole (F : Nat) (p0 : DDisk) (p1 : ByteArray) (p2 : (List DWrite)) (p3 : Int) (p4 : (List Bool)) : Option (Bool) :=
  (undo_Head F 0 (ByteArray.mk #[])).bind fun r1 =>
  (makes 16 (201 : Int)).bind fun u1 =>
  (idx (List.replicate ((201 : Int).toNat) ((ByteArray.mk #[]) : ByteArray)) 0).bind fun e1 =>
  (undo_Steps F (DDisk.mk ((List.replicate ((201 : Int).toNat) ((ByteArray.mk #[]) : ByteArray)).set ((0 : Int).toNat) r1.1) []) (ByteArray.mk #[97]) [(DWrite.mk 1 (ByteArray.mk #[98]))]).bind fun r3 =>
  bif ((r1.2 != 0) || ((r3.2 != 0) || ((r3.1.length : Int) != 7))) then
    some false
  else
    (undo_Recover F p0).bind fun r4 =>
    bif (r4.2 != 0) then
      some ((r4.1.pages.length : Int) == 0)
    else
      (undo_Seq F r4.1).bind fun r5 =>
      (undo_Steps F r4.1 p1 p2).bind fun r6 =>
      bif ((r5.2.2 != 0) || ((r6.2 != 0) || ((r6.1.length : Int) == 0))) then
        some (r6.2 != 0)
      else
        (annalkeep_Within p3 (r6.1.length : Int)).bind fun r7 =>
        (idx r6.1 r7).bind fun e2 =>
        (disk_Crash F e2 p4).bind fun r8 =>
        bif (r8.2 != 0) then
          some false
        else
          (undo_Recover F r8.1).bind fun r9 =>
          (undo_Seq F r9.1).bind fun r10 =>
          bif ((r9.2 != 0) || ((r10.2.2 != 0) || ((r9.1.pages.length : Int) != (r4.1.pages.length : Int)))) then
            some false
          else
            (lslice r4.1.pages 1 101).bind fun s1 =>
            (
              (grow 16 ([] : List ByteArray) s1).bind fun _ =>
                some (([] : List ByteArray) ++ s1) : Option ((List ByteArray))).bind fun z1 =>
            (
              bif (r10.1 != r5.1) then
                  (iter (σ := (List ByteArray) × Int) (ρ := (List ByteArray)) (fun x => match x with
                    | (x1, x2) =>
                      bif decide (x2 < (p2.length : Int)) then
                          (idx p2 x2).bind fun e3 =>
                          (idx x1 (IntKind.i64.wrap (e3.page - 1))).bind fun e4 =>
                          some (.inl ((x1.set ((IntKind.i64.wrap (e3.page - 1)).toNat) e3.text), IntKind.i64.wrap (x2 + 1)))
                        else
                          some (.inr x1)) F (z1, 0)).bind fun z3 =>
                  some z3
                else
                  some z1 : Option ((List ByteArray))).bind fun z2 =>
            (
              (lslice r9.1.pages 1 101).bind fun s3 =>
                (slices_Equal_string F s3 z2).bind fun r13 =>
                bif r13 then
                  bif (r10.1 == r5.1) then
                    bif (seq r10.2.1 r5.2.1) then
                      bif (!(r7 == (IntKind.i64.wrap ((r6.1.length : Int) - 1)))) then
                        some true
                      else
                        bif (r10.1 == (IntKind.i64.wrap (r5.1 + 1))) then
                          some (seq r10.2.1 p1)
                        else
                          some false
                    else
                      bif (r10.1 == (IntKind.i64.wrap (r5.1 + 1))) then
                        some (seq r10.2.1 p1)
                      else
                        some false
                  else
                    bif (r10.1 == (IntKind.i64.wrap (r5.1 + 1))) then
                      some (seq r10.2.1 p1)
                    else
                      some false
                else
                  some false : Option (Bool)).bind fun z4 =>
            some z4

end Go.Proofs.Ytomgholekojenaa
