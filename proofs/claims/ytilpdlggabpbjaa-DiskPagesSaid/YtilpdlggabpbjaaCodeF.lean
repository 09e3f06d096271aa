/- Pure functions, written by walkgen.py out of the Go functions of group Code. Their conditions: none. -/
import Derived.Test.YtilpdlggabpbjaaKeyF
import Derived.Test.YtilpdlggabpbjaaOps
namespace Go.Proofs.Ytilpdlggabpbjaa
set_option linter.unusedVariables false

def frame_two (p0 : Int) : Option (ByteArray) :=
  some (bytesOf [IntKind.u8.wrap (shr .i64 p0 8), IntKind.u8.wrap p0])

def frame_number (p0 : ByteArray) : Option (Int) :=
  (sidx p0 0).bind fun b1 =>
  (sidx p0 1).bind fun b2 =>
  some (bor .i64 (shl .i64 (IntKind.i64.wrap (b1.toNat : Int)) 8) (IntKind.i64.wrap (b2.toNat : Int)))

def frame_Put (p0 : DFrame) : Option (ByteArray × Int) :=
  bif ((decide (p0.kind < 1)) || (decide ((255 : Int) < p0.kind))) then
    some ((ByteArray.mk #[]), 1)
  else
    bif decide ((3000 : Int) < (p0.body.size : Int)) then
      some ((ByteArray.mk #[]), 2)
    else
      (frame_two (p0.body.size : Int)).bind fun r1 =>
      (scat (bytesOf [IntKind.u8.wrap p0.kind]) r1).bind fun s1 =>
      (scat s1 p0.body).bind fun s2 =>
      (sum_Of s2).bind fun r2 =>
      (frame_two r2).bind fun r3 =>
      (scat s2 r3).bind fun s3 =>
      some (s3, 0)

def frame_Get (p0 : ByteArray) : Option (DFrame × Int × Int) :=
  bif decide ((p0.size : Int) < 5) then
    some ((DFrame.mk 0 (ByteArray.mk #[])), 0, 7)
  else
    (sslice p0 1 (p0.size : Int)).bind fun s1 =>
    (frame_number s1).bind fun r1 =>
    (
      (sidx p0 0).bind fun b2 =>
        bif ((b2.toNat : Int) == 0) then
          some true
        else
          some (decide ((3000 : Int) < r1)) : Option (Bool)).bind fun z1 =>
    bif z1 then
      some ((DFrame.mk 0 (ByteArray.mk #[])), 0, 3)
    else
      bif decide ((p0.size : Int) < (IntKind.i64.wrap (r1 + 5))) then
        some ((DFrame.mk 0 (ByteArray.mk #[])), 0, 7)
      else
        (sslice p0 (IntKind.i64.wrap (r1 + 3)) (p0.size : Int)).bind fun s2 =>
        (frame_number s2).bind fun r2 =>
        (sslice p0 0 (IntKind.i64.wrap (r1 + 3))).bind fun s3 =>
        (sum_Of s3).bind fun r3 =>
        bif (r2 != r3) then
          some ((DFrame.mk 0 (ByteArray.mk #[])), 0, 6)
        else
          (sidx p0 0).bind fun b3 =>
          (sslice p0 3 (IntKind.i64.wrap (r1 + 3))).bind fun s4 =>
          some ((DFrame.mk (IntKind.i64.wrap (b3.toNat : Int)) s4), IntKind.i64.wrap (r1 + 5), 0)

def big_Put (p0 : Int) (p1 : Int) : Option (ByteArray) :=
  (makes 1 p1).bind fun u1 =>
  (iter (σ := (List Int) × Int × Int) (ρ := (List Int)) (fun x => match x with
    | (x1, x2, x3) =>
      bif decide (x3 < ((List.replicate p1.toNat (0 : Int)).length : Int)) then
          (idx x1 (IntKind.i64.wrap ((IntKind.i64.wrap (p1 - 1)) - x3))).bind fun e1 =>
          some (.inl ((x1.set ((IntKind.i64.wrap ((IntKind.i64.wrap (p1 - 1)) - x3)).toNat) (IntKind.u8.wrap x2)), shr .i64 x2 8, IntKind.i64.wrap (x3 + 1)))
        else
          some (.inr x1)) FUEL ((List.replicate p1.toNat (0 : Int)), p0, 0)).bind fun z1 =>
  some (bytesOf z1)

def big_Get (p0 : ByteArray) : Option (Int) :=
  (iter (σ := Int × Int) (ρ := Int) (fun x => match x with
    | (x1, x2) =>
      bif decide (x2 < (p0.size : Int)) then
          (sidx p0 x2).bind fun b1 =>
          some (.inl (bor .i64 (shl .i64 x1 8) (IntKind.i64.wrap (b1.toNat : Int)), IntKind.i64.wrap (x2 + 1)))
        else
          some (.inr x1)) FUEL (0, 0)).bind fun z1 =>
  some z1

def slices_Equal_string (p0 : (List ByteArray)) (p1 : (List ByteArray)) : Option (Bool) :=
  bif ((p0.length : Int) != (p1.length : Int)) then
    some false
  else
    (iter (σ := Int) (ρ := (Unit) ⊕ Bool) (fun x1 =>
        bif decide (x1 < (p0.length : Int)) then
            (idx p0 x1).bind fun e1 =>
            (idx p1 x1).bind fun e2 =>
            bif (!(seq e1 e2)) then
              some (.inr (.inr false))
            else
              some (.inl (IntKind.i64.wrap (x1 + 1)))
          else
            some (.inr (.inl ()))) FUEL 0).bind fun z => match z with
      | .inl _ =>
        some true
      | .inr q => some q

def slices_Equal_Write (p0 : (List DWrite)) (p1 : (List DWrite)) : Option (Bool) :=
  bif ((p0.length : Int) != (p1.length : Int)) then
    some false
  else
    (iter (σ := Int) (ρ := (Unit) ⊕ Bool) (fun x1 =>
        bif decide (x1 < (p0.length : Int)) then
            (idx p0 x1).bind fun e1 =>
            (idx p1 x1).bind fun e2 =>
            bif (!(e1 == e2)) then
              some (.inr (.inr false))
            else
              some (.inl (IntKind.i64.wrap (x1 + 1)))
          else
            some (.inr (.inl ()))) FUEL 0).bind fun z => match z with
      | .inl _ =>
        some true
      | .inr q => some q

end Go.Proofs.Ytilpdlggabpbjaa
