/- Pure functions, written by walkgen.py out of the Go functions of group Code. Their conditions: none. -/
import Derived.Test.YtjhkfonoobmecaaMap
namespace Go.Proofs.Ytjhkfonoobmecaa
set_option linter.unusedVariables false

def sum_Of (F : Nat) (p0 : ByteArray) : Option (Int) :=
  (iter (σ := Int × Int) (ρ := Int) (fun x => match x with
    | (x1, x2) =>
      bif decide (x2 < (p0.size : Int)) then
          (sidx p0 x2).bind fun b1 =>
          (iter (σ := Int × Int) (ρ := Int) (fun x => match x with
            | (x3, x4) =>
              bif decide (x4 < 8) then
                  (
                    bif ((band .u16 x3 32768) != 0) then
                        some (bxor .u16 (shl .u16 x3 1) 4129)
                      else
                        some (shl .u16 x3 1) : Option (Int)).bind fun z3 =>
                  some (.inl (z3, IntKind.i64.wrap (x4 + 1)))
                else
                  some (.inr x3)) F (bxor .u16 x1 (shl .u16 (IntKind.u16.wrap (b1.toNat : Int)) 8), 0)).bind fun z2 =>
          some (.inl (z2, IntKind.i64.wrap (x2 + 1)))
        else
          some (.inr x1)) F (0, 0)).bind fun z1 =>
  some (IntKind.i64.wrap z1)

def frame_two (p0 : Int) : Option (ByteArray) :=
  some (bytesOf [IntKind.u8.wrap (shr .i64 p0 8), IntKind.u8.wrap p0])

def frame_number (p0 : ByteArray) : Option (Int) :=
  (sidx p0 0).bind fun b1 =>
  (sidx p0 1).bind fun b2 =>
  some (bor .i64 (shl .i64 (IntKind.i64.wrap (b1.toNat : Int)) 8) (IntKind.i64.wrap (b2.toNat : Int)))

def frame_Put (F : Nat) (p0 : DFrame) : Option (ByteArray × Int) :=
  bif ((decide (p0.kind < 1)) || (decide ((255 : Int) < p0.kind))) then
    some ((ByteArray.mk #[]), 1)
  else
    bif decide ((3000 : Int) < (p0.body.size : Int)) then
      some ((ByteArray.mk #[]), 2)
    else
      (frame_two (p0.body.size : Int)).bind fun r1 =>
      (scat (bytesOf [IntKind.u8.wrap p0.kind]) r1).bind fun s1 =>
      (scat s1 p0.body).bind fun s2 =>
      (sum_Of F s2).bind fun r2 =>
      (frame_two r2).bind fun r3 =>
      (scat s2 r3).bind fun s3 =>
      some (s3, 0)

def frame_Get (F : Nat) (p0 : ByteArray) : Option (DFrame × Int × Int) :=
  bif decide ((p0.size : Int) < 5) then
    some ((DFrame.mk 0 (ByteArray.mk #[])), 0, 7)
  else
    (sslice p0 1 (p0.size : Int)).bind fun s1 =>
    (frame_number s1).bind fun r1 =>
    (
      (sidx p0 0).bind fun b2 =>
        bif ((b2.toNat : Int) == 0) then
          some true
        else
          some (decide ((3000 : Int) < r1)) : Option (Bool)).bind fun z1 =>
    bif z1 then
      some ((DFrame.mk 0 (ByteArray.mk #[])), 0, 3)
    else
      bif decide ((p0.size : Int) < (IntKind.i64.wrap (r1 + 5))) then
        some ((DFrame.mk 0 (ByteArray.mk #[])), 0, 7)
      else
        (sslice p0 (IntKind.i64.wrap (r1 + 3)) (p0.size : Int)).bind fun s2 =>
        (frame_number s2).bind fun r2 =>
        (sslice p0 0 (IntKind.i64.wrap (r1 + 3))).bind fun s3 =>
        (sum_Of F s3).bind fun r3 =>
        bif (r2 != r3) then
          some ((DFrame.mk 0 (ByteArray.mk #[])), 0, 6)
        else
          (sidx p0 0).bind fun b3 =>
          (sslice p0 3 (IntKind.i64.wrap (r1 + 3))).bind fun s4 =>
          some ((DFrame.mk (IntKind.i64.wrap (b3.toNat : Int)) s4), IntKind.i64.wrap (r1 + 5), 0)

def big_Put (F : Nat) (p0 : Int) (p1 : Int) : Option (ByteArray) :=
  (makes 1 p1).bind fun u1 =>
  (iter (σ := (List Int) × Int × Int) (ρ := (List Int)) (fun x => match x with
    | (x1, x2, x3) =>
      bif decide (x3 < ((List.replicate p1.toNat (0 : Int)).length : Int)) then
          (idx x1 (IntKind.i64.wrap ((IntKind.i64.wrap (p1 - 1)) - x3))).bind fun e1 =>
          some (.inl ((x1.set ((IntKind.i64.wrap ((IntKind.i64.wrap (p1 - 1)) - x3)).toNat) (IntKind.u8.wrap x2)), shr .i64 x2 8, IntKind.i64.wrap (x3 + 1)))
        else
          some (.inr x1)) F ((List.replicate p1.toNat (0 : Int)), p0, 0)).bind fun z1 =>
  some (bytesOf z1)

def big_Get (F : Nat) (p0 : ByteArray) : Option (Int) :=
  (iter (σ := Int × Int) (ρ := Int) (fun x => match x with
    | (x1, x2) =>
      bif decide (x2 < (p0.size : Int)) then
          (sidx p0 x2).bind fun b1 =>
          some (.inl (bor .i64 (shl .i64 x1 8) (IntKind.i64.wrap (b1.toNat : Int)), IntKind.i64.wrap (x2 + 1)))
        else
          some (.inr x1)) F (0, 0)).bind fun z1 =>
  some z1

end Go.Proofs.Ytjhkfonoobmecaa
