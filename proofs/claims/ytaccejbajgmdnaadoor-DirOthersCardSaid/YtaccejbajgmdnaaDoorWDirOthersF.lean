/- Pure functions, written by walkgen.py out of the Go functions of group WDirOthers. Their conditions: none. -/
import Derived.Test.YtaccejbajgmdnaaDoorDirF
import Derived.Test.YtaccejbajgmdnaaDoorMap
namespace Go.Proofs.YtaccejbajgmdnaaDoor
set_option linter.unusedVariables false

def annalkeep_DirOthers (F : Nat) (p0 : (List DElem)) (p1 : Int) (p2 : Int) (p3 : ByteArray) (p4 : ByteArray) (p5 : Int) (p6 : Int) : Option (Bool) :=
  (dir_Add F ([] : List DElem) 0 1 (ByteArray.mk #[97, 98]) 7 1).bind fun r1 =>
  (dir_Drop F r1.1 0 1 (ByteArray.mk #[97, 98]) 1).bind fun r2 =>
  bif ((r1.2 != 0) || ((r2.2 != 0) || (((r1.1.length : Int) != 1) || ((r2.1.length : Int) != 0)))) then
    some false
  else
    bif (seq p3 p4) then
      some true
    else
      (dir_Find F p0 p1 p2 p4 2147483647).bind fun r3 =>
      (
        (dir_Add F p0 p1 p2 p3 p5 p6).bind fun r4 =>
          bif (r4.2 == 0) then
            (dir_Find F r4.1 p1 p2 p4 2147483647).bind fun r5 =>
            bif ((r3.1 != r5.1) || (r3.2 != r5.2)) then
              some (.inr false)
            else
              some (.inl ())
          else
            some (.inl ()) : Option ((Unit) ⊕ Bool)).bind fun z => match z with
        | .inl _ =>
          (
            (dir_Drop F p0 p1 p2 p3 p6).bind fun r6 =>
              bif (r6.2 == 0) then
                (dir_Find F r6.1 p1 p2 p4 2147483647).bind fun r7 =>
                bif ((r3.1 != r7.1) || (r3.2 != r7.2)) then
                  some (.inr false)
                else
                  some (.inl ())
              else
                some (.inl ()) : Option ((Unit) ⊕ Bool)).bind fun z => match z with
            | .inl _ =>
              some true
            | .inr q => some q
        | .inr q => some q

end Go.Proofs.YtaccejbajgmdnaaDoor
