/- Pure functions, written by walkgen.py out of the Go functions of group WDirNames. Their conditions: none. -/
import Derived.Test.YtaccejbajgmdnaaDoorLstF
import Derived.Test.YtaccejbajgmdnaaDoorStrsF
import Derived.Test.YtaccejbajgmdnaaDoorMap
namespace Go.Proofs.YtaccejbajgmdnaaDoor
set_option linter.unusedVariables false

def annalkeep_DirNames (F : Nat) (p0 : (List DElem)) (p1 : Int) (p2 : Int) (p3 : ByteArray) (p4 : Int) (p5 : Int) (p6 : Int) : Option (Bool) :=
  (dir_Add F ([] : List DElem) 0 1 (ByteArray.mk #[97, 98]) 7 1).bind fun r1 =>
  (dir_Find F r1.1 0 1 (ByteArray.mk #[97, 98]) 1).bind fun r2 =>
  bif ((r1.2 != 0) || ((r2.2 != 0) || (r2.1 != 7))) then
    some false
  else
    (dir_Add F p0 p1 p2 p3 p4 p5).bind fun r3 =>
    bif (r3.2 != 0) then
      some ((r3.1.length : Int) == 0)
    else
      (dir_Find F r3.1 p1 p2 p3 (if p6 < p5 then p5 else p6)).bind fun r4 =>
      (dir_List F r3.1 p1 p2 p5).bind fun r5 =>
      (dir_List F p0 p1 p2 (if (IntKind.i64.wrap (p5 - 1)) < p6 then IntKind.i64.wrap (p5 - 1) else p6)).bind fun r6 =>
      (dir_List F r3.1 p1 p2 (if (IntKind.i64.wrap (p5 - 1)) < p6 then IntKind.i64.wrap (p5 - 1) else p6)).bind fun r7 =>
      (
        bif (r4.2 != 0) then
            some true
          else
            bif (r5.2 != 0) then
              some true
            else
              bif (r6.2 != 0) then
                some true
              else
                bif (r7.2 != 0) then
                  some true
                else
                  bif (r4.1 != p4) then
                    some true
                  else
                    (slices_Contains_string F r5.1 p3).bind fun r8 =>
                    bif (!r8) then
                      some true
                    else
                      (slices_IsSorted_string F r5.1).bind fun r9 =>
                      bif (!r9) then
                        some true
                      else
                        (slices_Equal_string F r6.1 r7.1).bind fun r10 =>
                        some (!r10) : Option (Bool)).bind fun z1 =>
      bif z1 then
        some false
      else
        (dir_Add F r3.1 p1 p2 p3 p4 p5).bind fun r11 =>
        bif (r11.2 != 5) then
          some false
        else
          (dir_Drop F r3.1 p1 p2 p3 p5).bind fun r12 =>
          (dir_Find F r12.1 p1 p2 p3 2147483647).bind fun r13 =>
          some ((r12.2 == 0) && (r13.2 == 4))

end Go.Proofs.YtaccejbajgmdnaaDoor
