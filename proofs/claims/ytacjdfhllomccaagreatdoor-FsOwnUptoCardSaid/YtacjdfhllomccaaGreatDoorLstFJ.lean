/- Pure functions, written by walkgen.py out of the Go functions of group Lst. Their conditions: none. -/
import Derived.Test.YtacjdfhllomccaaGreatDoorDirFJ
import Derived.Test.YtacjdfhllomccaaGreatDoorSortSJ
import Derived.Test.YtacjdfhllomccaaGreatDoorMapJ
namespace Go.Proofs.YtacjdfhllomccaaGreatDoor
set_option linter.unusedVariables false
def dir_List (F : Nat) (p0 : (List DElem)) (p1 : Int) (p2 : Int) (p3 : Int) : Option (((List ByteArray)) × Int) :=
 (dir_look F p0 p1 p2).bind fun r1 =>
 bif (r1 != 0) then
  some ([], r1)
 else
  (iter (σ := (List ByteArray) × Int) (ρ := (List ByteArray)) (fun x => match x with
   | (x1, x2) =>
    bif decide (x2 < (p0.length : Int)) then
     (
      (idx p0 x2).bind fun e1 =>
       (
        bif (e1.key.pfs != p1) then
         some true
         else
          bif (e1.key.obj != p2) then
           some true
          else
           (elem_Live e1 p3).bind fun r3 =>
           some (!r3) : Option (Bool)).bind fun z3 =>
       bif z3 then
        some x1
       else
        (dir_entry F e1).bind fun r4 =>
        bif r4.2.2 then
         (grow 16 x1 [r4.1]).bind fun _ =>
         some (x1 ++ [r4.1])
        else
         some x1 : Option ((List ByteArray))).bind fun z2 =>
     some (.inl (z2, IntKind.i64.wrap (x2 + 1)))
     else
      some (.inr x1)) F ([], 0)).bind fun z1 =>
  (ssortO z1).bind fun _ =>
  some ((scomp (ssort z1)), 0)
end Go.Proofs.YtacjdfhllomccaaGreatDoor
