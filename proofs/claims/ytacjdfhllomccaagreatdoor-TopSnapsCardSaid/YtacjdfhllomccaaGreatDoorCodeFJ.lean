/- Pure functions, written by walkgen.py out of the Go functions of group Code. Their conditions: none. -/
import Derived.Test.YtacjdfhllomccaaGreatDoorKeyFJ
import Derived.Test.YtacjdfhllomccaaGreatDoorMapJ
namespace Go.Proofs.YtacjdfhllomccaaGreatDoor
set_option linter.unusedVariables false
def sum_Of (F : Nat) (p0 : ByteArray) : Option (Int) :=
 (iter (σ := Int × Int) (ρ := Int) (fun x => match x with
  | (x1, x2) =>
   bif decide (x2 < (p0.size : Int)) then
    (sidx p0 x2).bind fun b1 =>
    (iter (σ := Int × Int) (ρ := Int) (fun x => match x with
     | (x3, x4) =>
      bif decide (x4 < 8) then
       (
        bif ((band .u16 x3 32768) != 0) then
         some (bxor .u16 (shl .u16 x3 1) 4129)
         else
          some (shl .u16 x3 1) : Option (Int)).bind fun z3 =>
       some (.inl (z3, IntKind.i64.wrap (x4 + 1)))
       else
        some (.inr x3)) F (bxor .u16 x1 (shl .u16 (IntKind.u16.wrap (b1.toNat : Int)) 8), 0)).bind fun z2 =>
    some (.inl (z2, IntKind.i64.wrap (x2 + 1)))
    else
     some (.inr x1)) F (0, 0)).bind fun z1 =>
 some (IntKind.i64.wrap z1)
def annalkeep_Within (p0 : Int) (p1 : Int) : Option (Int) :=
 (toDiv (IntKind.u64.wrap p1)).bind fun d1 =>
 some (IntKind.i64.wrap ((IntKind.u64.wrap p0).tmod d1))
end Go.Proofs.YtacjdfhllomccaaGreatDoor
