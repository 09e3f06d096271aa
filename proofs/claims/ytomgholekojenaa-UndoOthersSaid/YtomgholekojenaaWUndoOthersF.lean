/- Pure functions, written by walkgen.py out of the Go functions of group WUndoOthers. Their conditions: none. -/
import Derived.Test.YtomgholekojenaaStepF
import Derived.Test.YtomgholekojenaaMap
namespace Go.Proofs.Ytomgholekojenaa
set_option linter.unusedVariables false

def annalkeep_UndoOthers (F : Nat) (p0 : DDisk) (p1 : ByteArray) (p2 : (List DWrite)) (p3 : Int) : Option (Bool) :=
  (undo_Head F 3 (ByteArray.mk #[97, 98])).bind fun r1 =>
  (makes 16 (201 : Int)).bind fun u1 =>
  (idx (List.replicate ((201 : Int).toNat) ((ByteArray.mk #[]) : ByteArray)) 0).bind fun e1 =>
  (undo_Steps F (DDisk.mk ((List.replicate ((201 : Int).toNat) ((ByteArray.mk #[]) : ByteArray)).set ((0 : Int).toNat) r1.1) []) (ByteArray.mk #[]) [(DWrite.mk 2 (ByteArray.mk #[98]))]).bind fun r3 =>
  (
    bif (r1.2 != 0) then
        some true
      else
        bif (r3.2 != 0) then
          some true
        else
          bif ((r3.1.length : Int) != 7) then
            some true
          else
            (idx r3.1 6).bind fun e2 =>
            (idx e2.pages 2).bind fun e3 =>
            some (!(seq e3 (ByteArray.mk #[98]))) : Option (Bool)).bind fun z1 =>
  bif z1 then
    some false
  else
    (undo_Steps F p0 p1 p2).bind fun r4 =>
    bif ((r4.2 != 0) || ((r4.1.length : Int) == 0)) then
      some (r4.2 != 0)
    else
      (idx r4.1 (IntKind.i64.wrap ((r4.1.length : Int) - 1))).bind fun e4 =>
      (annalkeep_Within p3 100).bind fun r5 =>
      (iter (σ := Int) (ρ := (Unit) ⊕ Bool) (fun x1 =>
          bif decide (x1 < (p2.length : Int)) then
              (idx p2 x1).bind fun e5 =>
              bif (e5.page == (IntKind.i64.wrap (1 + r5))) then
                (idx e4.pages (IntKind.i64.wrap (1 + r5))).bind fun e6 =>
                some (.inr (.inr (seq e6 e5.text)))
              else
                some (.inl (IntKind.i64.wrap (x1 + 1)))
            else
              some (.inr (.inl ()))) F 0).bind fun z => match z with
        | .inl _ =>
          (idx p0.pages (IntKind.i64.wrap (1 + r5))).bind fun e7 =>
          (iter (σ := ByteArray × Int) (ρ := ByteArray) (fun x => match x with
            | (x2, x3) =>
              bif decide (x3 < (p0.writes.length : Int)) then
                  (
                    (idx p0.writes x3).bind fun e8 =>
                      bif (e8.page == (IntKind.i64.wrap (1 + r5))) then
                        some e8.text
                      else
                        some x2 : Option (ByteArray)).bind fun z3 =>
                  some (.inl (z3, IntKind.i64.wrap (x3 + 1)))
                else
                  some (.inr x2)) F (e7, 0)).bind fun z2 =>
          (
            (idx e4.pages (IntKind.i64.wrap (1 + r5))).bind fun e9 =>
              bif (seq e9 z2) then
                some ((e4.writes.length : Int) == 0)
              else
                some false : Option (Bool)).bind fun z4 =>
          some z4
        | .inr q => some q

end Go.Proofs.Ytomgholekojenaa
