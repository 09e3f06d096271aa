/- Pure functions, written by walkgen.py out of the Go functions of group WDirPast. Their conditions: none. -/
import Derived.Test.YtaccejbajgmdnaaDoorDirF
import Derived.Test.YtaccejbajgmdnaaDoorMap
namespace Go.Proofs.YtaccejbajgmdnaaDoor
set_option linter.unusedVariables false

def annalkeep_DirPast (F : Nat) (p0 : (List DElem)) (p1 : Int) (p2 : Int) (p3 : ByteArray) (p4 : Int) (p5 : Int) : Option (Bool) :=
  (dir_Add F ([] : List DElem) 0 1 (ByteArray.mk #[97, 98]) 7 1).bind fun r1 =>
  (dir_Drop F r1.1 0 1 (ByteArray.mk #[97, 98]) 3).bind fun r2 =>
  (dir_Find F r2.1 0 1 (ByteArray.mk #[97, 98]) 2).bind fun r3 =>
  bif ((r1.2 != 0) || ((r2.2 != 0) || ((r3.2 != 0) || (r3.1 != 7)))) then
    some false
  else
    (dir_Drop F p0 p1 p2 p3 p4).bind fun r4 =>
    bif (r4.2 != 0) then
      some ((r4.1.length : Int) == 0)
    else
      (dir_Find F p0 p1 p2 p3 (if (IntKind.i64.wrap (p4 - 1)) < p5 then IntKind.i64.wrap (p4 - 1) else p5)).bind fun r5 =>
      (dir_Find F r4.1 p1 p2 p3 (if (IntKind.i64.wrap (p4 - 1)) < p5 then IntKind.i64.wrap (p4 - 1) else p5)).bind fun r6 =>
      (dir_Find F p0 p1 p2 p3 2147483647).bind fun r7 =>
      some ((r5.1 == r6.1) && ((r5.2 == r6.2) && (r7.2 == 0)))

end Go.Proofs.YtaccejbajgmdnaaDoor
