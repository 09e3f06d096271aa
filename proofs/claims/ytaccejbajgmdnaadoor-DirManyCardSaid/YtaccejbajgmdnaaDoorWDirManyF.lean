/- Pure functions, written by walkgen.py out of the Go functions of group WDirMany. Their conditions: none. -/
import Derived.Test.YtaccejbajgmdnaaDoorLstF
import Derived.Test.YtaccejbajgmdnaaDoorStrsF
import Derived.Test.YtaccejbajgmdnaaDoorSortS
import Derived.Test.YtaccejbajgmdnaaDoorMap
namespace Go.Proofs.YtaccejbajgmdnaaDoor
set_option linter.unusedVariables false

def annalkeep_DirMany (F : Nat) (p0 : (List ByteArray)) (p1 : Int) : Option (Bool) :=
  (dir_Add F ([] : List DElem) 0 1 (ByteArray.mk #[97, 98]) 7 1).bind fun r1 =>
  (dir_List F r1.1 0 1 1).bind fun r2 =>
  (
    bif (r1.2 != 0) then
        some true
      else
        bif (r2.2 != 0) then
          some true
        else
          (slices_Equal_string F r2.1 [(ByteArray.mk #[97, 98])]).bind fun r3 =>
          some (!r3) : Option (Bool)).bind fun z1 =>
  bif z1 then
    some false
  else
    (annalkeep_Within p1 100).bind fun r4 =>
    (lslice p0 0 (if (30 : Int) < (p0.length : Int) then 30 else (p0.length : Int))).bind fun s1 =>
    (iter (σ := (List ByteArray) × (List DElem) × Int) (ρ := ((List ByteArray) × (List DElem)) ⊕ Bool) (fun x => match x with
      | (x1, x2, x3) =>
        bif decide (x3 < (s1.length : Int)) then
            (
              (idx s1 x3).bind fun e1 =>
                (dir_Add F x2 0 r4 e1 x3 (IntKind.i64.wrap (x3 + 1))).bind fun r6 =>
                (dir_Name F e1).bind fun r7 =>
                bif (!r7) then
                  bif (r6.2 != 3) then
                    some (.inr (.inr (.inr false)))
                  else
                    some (.inl (x1, x2))
                else
                  (slices_Contains_string F x1 e1).bind fun r8 =>
                  bif r8 then
                    bif (r6.2 != 5) then
                      some (.inr (.inr (.inr false)))
                    else
                      some (.inl (x1, x2))
                  else
                    bif (r6.2 == 0) then
                      (grow 16 x1 [e1]).bind fun _ =>
                      (dir_Find F r6.1 0 r4 e1 (IntKind.i64.wrap (x3 + 1))).bind fun r9 =>
                      bif ((r9.2 != 0) || (r9.1 != x3)) then
                        some (.inr (.inr (.inr false)))
                      else
                        some (.inl ((x1 ++ [e1]), r6.1))
                    else
                      bif (r6.2 != 8) then
                        some (.inr (.inr (.inr false)))
                      else
                        some (.inl (x1, x2)) : Option (((List ByteArray) × (List DElem)) ⊕ (((List ByteArray) × (List DElem) × Int) ⊕ (((List ByteArray) × (List DElem)) ⊕ Bool)))).bind fun z => match z with
              | .inl (z4, z5) =>
                some (.inl (z4, z5, IntKind.i64.wrap (x3 + 1)))
              | .inr q => some q
          else
            some (.inr (.inl (x1, x2)))) F ([], [], 0)).bind fun z => match z with
      | .inl (z2, z3) =>
        (dir_List F z3 0 r4 2147483647).bind fun r10 =>
        (ssortO z2).bind fun _ =>
        (
          bif (r10.2 == 0) then
              (slices_Equal_string F r10.1 (ssort z2)).bind fun r11 =>
              some r11
            else
              some false : Option (Bool)).bind fun z6 =>
        some z6
      | .inr q => some q

end Go.Proofs.YtaccejbajgmdnaaDoor
