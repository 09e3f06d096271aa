/- Pure functions, written by walkgen.py out of the Go functions of group Names. Their conditions: none. -/
import Derived.Test.YtacjdfhllomccaaGreatDoorDirFJ
import Derived.Test.YtacjdfhllomccaaGreatDoorLibDFJ
import Derived.Test.YtacjdfhllomccaaGreatDoorLibPFJ
import Derived.Test.YtacjdfhllomccaaGreatDoorMapJ
namespace Go.Proofs.YtacjdfhllomccaaGreatDoor
set_option linter.unusedVariables false
def fs_names (F : Nat) (p0 : ByteArray) : Option (((List ByteArray)) × Int) :=
 bif (seq p0 (ByteArray.mk #[47])) then
  some ([], 0)
 else
  (strings_HasPrefix p0 (ByteArray.mk #[47])).bind fun r1 =>
  bif (!r1) then
   some ([], 3)
  else
   (sslice p0 1 (p0.size : Int)).bind fun s1 =>
   (strings_Split s1 (ByteArray.mk #[47])).bind fun r2 =>
   (iter (σ := Int) (ρ := (Unit) ⊕ (((List ByteArray)) × Int)) (fun x1 =>
    bif decide (x1 < (r2.length : Int)) then
     (idx r2 x1).bind fun e1 =>
     (dir_Name F e1).bind fun r3 =>
     bif (!r3) then
      some (.inr (.inr ([], 3)))
     else
      some (.inl (IntKind.i64.wrap (x1 + 1)))
     else
      some (.inr (.inl ()))) F 0).bind fun z => match z with
    | .inl _ =>
     bif decide ((6 : Int) < (r2.length : Int)) then
      some ([], 2)
     else
      some (r2, 0)
    | .inr q => some q
end Go.Proofs.YtacjdfhllomccaaGreatDoor
