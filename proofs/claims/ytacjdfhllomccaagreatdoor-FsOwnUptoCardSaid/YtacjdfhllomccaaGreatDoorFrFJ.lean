/- Pure functions, written by walkgen.py out of Go functions that change what they are handed. Their conditions: none. -/
import Derived.Test.YtacjdfhllomccaaGreatDoorNamesFJ
import Derived.Test.YtacjdfhllomccaaGreatDoorFileFJ
import Derived.Test.YtacjdfhllomccaaGreatDoorLstFJ
import Derived.Test.YtacjdfhllomccaaGreatDoorPickLJ
import Derived.Test.YtacjdfhllomccaaGreatDoorPruneLJ
import Derived.Test.YtacjdfhllomccaaGreatDoorLocalJ
import Derived.Test.YtacjdfhllomccaaGreatDoorMapJ
import Derived.Test.YtacjdfhllomccaaGreatDoorInsJ
import Derived.Test.YtacjdfhllomccaaGreatDoorRecJ
import Derived.Test.YtacjdfhllomccaaGreatDoorTreeOJ
import Derived.Test.YtacjdfhllomccaaGreatDoorAnyLJ
namespace Go.Proofs.YtacjdfhllomccaaGreatDoor
set_option linter.unusedVariables false
def fs_FS_kind_fr (F : Nat) (p904 : List DElem) (p906 : Int) (p907 : Int) (p908 : Int) (p909 : Int) : Option (ByteArray) :=
 (run_At F p904 (DKey.mk 0 p908 0) p909).bind fun r1 =>
 some r1.1.val
def fs_FS_walk_fr (F : Nat) (p904 : List DElem) (p906 : Int) (p907 : Int) (p910 : List ByteArray) (p912 : Int) : Option (Int × Int) :=
 (fs_FS_kind_fr F p904 p906 p907 1 p912).bind fun r1 =>
 bif (seq r1 (ByteArray.mk #[])) then
  some (0, 4)
 else
  (iter (σ := Int × Int) (ρ := (Int) ⊕ (Int × Int)) (fun x => match x with
   | (x1, x2) =>
    bif decide (x2 < (p910.length : Int)) then
     (idx p910 x2).bind fun e1 =>
     (fs_FS_kind_fr F p904 p906 p907 x1 p912).bind fun r2 =>
     bif (!(seq r2 (ByteArray.mk #[100]))) then
      some (.inr (.inr (0, 12)))
     else
      (dir_Find F p904 0 x1 e1 p912).bind fun r3 =>
      bif (r3.2 != 0) then
       some (.inr (.inr (0, r3.2)))
      else
       some (.inl (r3.1, IntKind.i64.wrap (x2 + 1)))
     else
      some (.inr (.inl x1))) F (1, 0)).bind fun z => match z with
   | .inl z3 =>
    some (z3, 0)
   | .inr q => some q
def fs_FS_parent_fr (F : Nat) (p904 : List DElem) (p906 : Int) (p907 : Int) (p908 : ByteArray) : Option (Int × ByteArray × Int × Int) :=
 (fs_names F p908).bind fun r1 =>
 bif (r1.2 != 0) then
  some (0, (ByteArray.mk #[]), 0, r1.2)
 else
  bif ((r1.1.length : Int) == 0) then
   some (0, (ByteArray.mk #[]), 1, 0)
  else
   (lslice r1.1 0 (IntKind.i64.wrap ((r1.1.length : Int) - 1))).bind fun s1 =>
   (fs_FS_walk_fr F p904 p906 p907 s1 p906).bind fun r2 =>
   bif (r2.2 != 0) then
    some (0, (ByteArray.mk #[]), 0, r2.2)
   else
    (fs_FS_kind_fr F p904 p906 p907 r2.1 p906).bind fun r3 =>
    bif (!(seq r3 (ByteArray.mk #[100]))) then
     some (0, (ByteArray.mk #[]), 0, 12)
    else
     (idx r1.1 (IntKind.i64.wrap ((r1.1.length : Int) - 1))).bind fun e1 =>
     (dir_Find F p904 0 r2.1 e1 p906).bind fun r4 =>
     (
      bif (r4.2 != 0) then
       some 0
       else
        some r4.1 : Option (Int)).bind fun z5 =>
     (idx r1.1 (IntKind.i64.wrap ((r1.1.length : Int) - 1))).bind fun e2 =>
     some (r2.1, e2, z5, 0)
def fs_FS_create_fr (F : Nat) (p904 : List DElem) (p906 : Int) (p907 : Int) (p911 : List DElem) (p913 : Int) (p914 : Int) (p915 : Int) (p916 : ByteArray) (p917 : ByteArray) : Option ((List DElem) × Int) :=
 (
  bif ((p914 == 0) && (decide ((1048576 : Int) < p907))) then
   some 8
   else
    some p914 : Option (Int)).bind fun z3 =>
 (
  bif (z3 == 0) then
   (run_Put F p911 (DKey.mk 0 p907 0) p917 p913).bind fun r1 =>
   (
    bif (r1.2 == 0) then
     some r1.1
     else
      some p911 : Option ((List DElem))).bind fun z6 =>
   some (z6, r1.2)
   else
    some (p911, z3) : Option ((List DElem) × Int)).bind fun z => match z with
  | (z4, z5) =>
   (
    bif (z5 == 0) then
     (dir_Add F z4 0 p915 p916 p907 p913).bind fun r2 =>
     (
      bif (r2.2 == 0) then
       some r2.1
       else
        some z4 : Option ((List DElem))).bind fun z9 =>
     some (z9, r2.2)
     else
      some (z4, z5) : Option ((List DElem) × Int)).bind fun z => match z with
    | (z7, z8) =>
     some (z7, z8)
def fs_FS_Mkdir_fr (F : Nat) (p904 : List DElem) (p906 : Int) (p907 : Int) (p908 : ByteArray) : Option ((List DElem) × Int × Int × Int) :=
 (fs_FS_parent_fr F p904 p906 p907 p908).bind fun r1 =>
 bif (r1.2.2.2 != 0) then
  some (p904, p906, p907, r1.2.2.2)
 else
  bif (r1.2.2.1 != 0) then
   some (p904, p906, p907, 5)
  else
   (
    (
     bif (p906 == 2147483647) then
      some 8
      else
       some 0 : Option (Int)).bind fun z6 =>
     some z6 : Option (Int)).bind fun z5 =>
   (fs_FS_create_fr F p904 p906 p907 p904 (IntKind.i64.wrap (p906 + 1)) z5 r1.1 r1.2.1 (ByteArray.mk #[100])).bind fun r2 =>
   (
    (
     bif (r2.2 == 0) then
      some (r2.1, IntKind.i64.wrap (p906 + 1))
      else
       some (p904, p906) : Option ((List DElem) × Int)).bind fun z => match z with
     | (z9, z10) =>
      some (z9, z10) : Option ((List DElem) × Int)).bind fun z => match z with
    | (z7, z8) =>
     bif (r2.2 != 0) then
      some (z7, z8, p907, r2.2)
     else
      some (z7, z8, IntKind.i64.wrap (p907 + 1), 0)
def fs_FS_Move_fr (F : Nat) (p904 : List DElem) (p906 : Int) (p907 : Int) (p908 : ByteArray) (p909 : ByteArray) : Option ((List DElem) × Int × Int) :=
 (fs_FS_parent_fr F p904 p906 p907 p908).bind fun r1 =>
 bif (r1.2.2.2 != 0) then
  some (p904, p906, r1.2.2.2)
 else
  bif (r1.2.2.1 == 0) then
   some (p904, p906, 4)
  else
   (
    bif (r1.2.2.1 == 1) then
     some true
     else
      (scat p909 (ByteArray.mk #[47])).bind fun s1 =>
      (scat p908 (ByteArray.mk #[47])).bind fun s2 =>
      (strings_HasPrefix s1 s2).bind fun r2 =>
      some r2 : Option (Bool)).bind fun z4 =>
   bif z4 then
    some (p904, p906, 1)
   else
    (fs_FS_parent_fr F p904 p906 p907 p909).bind fun r3 =>
    bif (r3.2.2.2 != 0) then
     some (p904, p906, r3.2.2.2)
    else
     bif (r3.2.2.1 != 0) then
      some (p904, p906, 5)
     else
      (
       (
        bif (p906 == 2147483647) then
         some 8
         else
          some 0 : Option (Int)).bind fun z6 =>
        some z6 : Option (Int)).bind fun z5 =>
      (
       bif (z5 == 0) then
        (dir_Drop F p904 0 r1.1 r1.2.1 (IntKind.i64.wrap (p906 + 1))).bind fun r4 =>
        (
         bif (r4.2 == 0) then
          some r4.1
          else
           some p904 : Option ((List DElem))).bind fun z9 =>
        some (z9, r4.2)
        else
         some (p904, z5) : Option ((List DElem) × Int)).bind fun z => match z with
       | (z7, z8) =>
        (
         bif (z8 == 0) then
          (dir_Add F z7 0 r3.1 r3.2.1 r1.2.2.1 (IntKind.i64.wrap (p906 + 1))).bind fun r5 =>
          (
           bif (r5.2 == 0) then
            some r5.1
            else
             some z7 : Option ((List DElem))).bind fun z12 =>
          some (z12, r5.2)
          else
           some (z7, z8) : Option ((List DElem) × Int)).bind fun z => match z with
         | (z10, z11) =>
          (
           (
            bif (z11 == 0) then
             some (z10, IntKind.i64.wrap (p906 + 1))
             else
              some (p904, p906) : Option ((List DElem) × Int)).bind fun z => match z with
            | (z15, z16) =>
             some (z15, z16) : Option ((List DElem) × Int)).bind fun z => match z with
           | (z13, z14) =>
            some (z13, z14, z11)
def fs_FS_Write_fr (F : Nat) (p904 : List DElem) (p906 : Int) (p907 : Int) (p908 : ByteArray) (p909 : ByteArray) : Option ((List DElem) × Int × Int × Int) :=
 (fs_FS_parent_fr F p904 p906 p907 p908).bind fun r1 =>
 bif (r1.2.2.2 != 0) then
  some (p904, p906, p907, r1.2.2.2)
 else
  (
   bif (r1.2.2.1 != 0) then
    (fs_FS_kind_fr F p904 p906 p907 r1.2.2.1 p906).bind fun r2 =>
    some (!(seq r2 (ByteArray.mk #[102])))
    else
     some false : Option (Bool)).bind fun z5 =>
  bif z5 then
   some (p904, p906, p907, 12)
  else
   (
    (
     bif (p906 == 2147483647) then
      some 8
      else
       some 0 : Option (Int)).bind fun z7 =>
     some z7 : Option (Int)).bind fun z6 =>
   (
    bif (r1.2.2.1 == 0) then
     (fs_FS_create_fr F p904 p906 p907 p904 (IntKind.i64.wrap (p906 + 1)) z6 r1.1 r1.2.1 (ByteArray.mk #[102])).bind fun r3 =>
     some (r3.1, r3.2, p907)
     else
      some (p904, z6, r1.2.2.1) : Option ((List DElem) × Int × Int)).bind fun z => match z with
    | (z8, z9, z10) =>
     (
      bif (z9 == 0) then
       (file_Set F z8 0 z10 p909 (IntKind.i64.wrap (p906 + 1))).bind fun r4 =>
       (
        bif (r4.2 == 0) then
         some r4.1
         else
          some z8 : Option ((List DElem))).bind fun z13 =>
       some (z13, r4.2)
       else
        some (z8, z9) : Option ((List DElem) × Int)).bind fun z => match z with
      | (z11, z12) =>
       (
        (
         bif (z12 == 0) then
          some (z11, IntKind.i64.wrap (p906 + 1))
          else
           some (p904, p906) : Option ((List DElem) × Int)).bind fun z => match z with
         | (z16, z17) =>
          some (z16, z17) : Option ((List DElem) × Int)).bind fun z => match z with
        | (z14, z15) =>
         bif (z12 != 0) then
          some (z14, z15, p907, z12)
         else
          (
           bif (r1.2.2.1 == 0) then
            some (IntKind.i64.wrap (p907 + 1))
            else
             some p907 : Option (Int)).bind fun z18 =>
          some (z14, z15, z18, 0)
def fs_FS_at_fr (F : Nat) (p904 : List DElem) (p906 : Int) (p907 : Int) (p908 : ByteArray) (p909 : Int) : Option (Int × Int) :=
 (fs_names F p908).bind fun r1 =>
 bif (r1.2 != 0) then
  some (0, r1.2)
 else
  bif ((decide (p909 < 0)) || (decide (p906 < p909))) then
   some (0, 9)
  else
   (fs_FS_walk_fr F p904 p906 p907 r1.1 p909).bind fun r2 =>
   some (r2.1, r2.2)
def fs_FS_Patch_fr (F : Nat) (p904 : List DElem) (p906 : Int) (p907 : Int) (p908 : ByteArray) (p909 : Int) (p910 : ByteArray) : Option ((List DElem) × Int × Int) :=
 (fs_FS_at_fr F p904 p906 p907 p908 p906).bind fun r1 =>
 bif (r1.2 != 0) then
  some (p904, p906, r1.2)
 else
  (fs_FS_kind_fr F p904 p906 p907 r1.1 p906).bind fun r2 =>
  bif (!(seq r2 (ByteArray.mk #[102]))) then
   some (p904, p906, 12)
  else
   (
    (
     bif (p906 == 2147483647) then
      some 8
      else
       some 0 : Option (Int)).bind fun z5 =>
     some z5 : Option (Int)).bind fun z4 =>
   (
    bif (z4 == 0) then
     (file_Patch F p904 0 r1.1 p909 p910 (IntKind.i64.wrap (p906 + 1))).bind fun r3 =>
     (
      bif (r3.2 == 0) then
       some r3.1
       else
        some p904 : Option ((List DElem))).bind fun z8 =>
     some (z8, r3.2)
     else
      some (p904, z4) : Option ((List DElem) × Int)).bind fun z => match z with
    | (z6, z7) =>
     (
      (
       bif (z7 == 0) then
        some (z6, IntKind.i64.wrap (p906 + 1))
        else
         some (p904, p906) : Option ((List DElem) × Int)).bind fun z => match z with
       | (z11, z12) =>
        some (z11, z12) : Option ((List DElem) × Int)).bind fun z => match z with
      | (z9, z10) =>
       some (z9, z10, z7)
def fs_FS_Remove_fr (F : Nat) (p904 : List DElem) (p906 : Int) (p907 : Int) (p908 : ByteArray) : Option ((List DElem) × Int × Int) :=
 (fs_FS_parent_fr F p904 p906 p907 p908).bind fun r1 =>
 bif (r1.2.2.2 != 0) then
  some (p904, p906, r1.2.2.2)
 else
  bif (r1.2.2.1 == 1) then
   some (p904, p906, 1)
  else
   bif (r1.2.2.1 == 0) then
    some (p904, p906, 4)
   else
    (dir_List F p904 0 r1.2.2.1 p906).bind fun r2 =>
    bif decide ((0 : Int) < (r2.1.length : Int)) then
     some (p904, p906, 5)
    else
     (
      (
       bif (p906 == 2147483647) then
        some 8
        else
         some 0 : Option (Int)).bind fun z5 =>
       some z5 : Option (Int)).bind fun z4 =>
     (
      bif (z4 == 0) then
       (dir_Drop F p904 0 r1.1 r1.2.1 (IntKind.i64.wrap (p906 + 1))).bind fun r3 =>
       (
        bif (r3.2 == 0) then
         some r3.1
         else
          some p904 : Option ((List DElem))).bind fun z8 =>
       some (z8, r3.2)
       else
        some (p904, z4) : Option ((List DElem) × Int)).bind fun z => match z with
      | (z6, z7) =>
       (
        bif (z7 == 0) then
         (file_Set F z6 0 r1.2.2.1 (ByteArray.mk #[]) (IntKind.i64.wrap (p906 + 1))).bind fun r4 =>
         (
          bif (r4.2 == 0) then
           some r4.1
           else
            some z6 : Option ((List DElem))).bind fun z11 =>
         some (z11, r4.2)
         else
          some (z6, z7) : Option ((List DElem) × Int)).bind fun z => match z with
        | (z9, z10) =>
         (
          bif (z10 == 0) then
           (run_Cut F z9 (DKey.mk 0 r1.2.2.1 0) (IntKind.i64.wrap (p906 + 1))).bind fun r5 =>
           (
            bif (r5.2 == 0) then
             some r5.1
             else
              some z9 : Option ((List DElem))).bind fun z14 =>
           some (z14, r5.2)
           else
            some (z9, z10) : Option ((List DElem) × Int)).bind fun z => match z with
          | (z12, z13) =>
           (
            (
             bif (z13 == 0) then
              some (z12, IntKind.i64.wrap (p906 + 1))
              else
               some (p904, p906) : Option ((List DElem) × Int)).bind fun z => match z with
             | (z17, z18) =>
              some (z17, z18) : Option ((List DElem) × Int)).bind fun z => match z with
            | (z15, z16) =>
             some (z15, z16, z13)
def annalkeep_act_fr (F : Nat) (p904 : List DElem) (p906 : Int) (p907 : Int) (p910 : List Int) (p914 : List ByteArray) (p918 : List ByteArray) : Option ((List DElem) × Int × Int × Int) :=
 (annalkeep_num p910 1).bind fun r1 =>
 (annalkeep_pick p914 r1).bind fun r2 =>
 (annalkeep_num p910 2).bind fun r3 =>
 (annalkeep_pick p914 r3).bind fun r4 =>
 (annalkeep_num p910 2).bind fun r5 =>
 (annalkeep_pick p918 r5).bind fun r6 =>
 (annalkeep_num p910 0).bind fun r7 =>
 (annalkeep_Within r7 5).bind fun r8 =>
 bif (r8 == 0) then
  (fs_FS_Mkdir_fr F p904 p906 p907 r2).bind fun r9 =>
  some (r9.1, r9.2.1, r9.2.2.1, r9.2.2.2)
 else
  bif (r8 == 1) then
   (fs_FS_Write_fr F p904 p906 p907 r2 r6).bind fun r10 =>
   some (r10.1, r10.2.1, r10.2.2.1, r10.2.2.2)
  else
   bif (r8 == 2) then
    (annalkeep_num p910 3).bind fun r11 =>
    (fs_FS_Patch_fr F p904 p906 p907 r2 r11 r6).bind fun r12 =>
    some (r12.1, r12.2.1, p907, r12.2.2)
   else
    bif (r8 == 3) then
     (fs_FS_Remove_fr F p904 p906 p907 r2).bind fun r13 =>
     some (r13.1, r13.2.1, p907, r13.2.2)
    else
     (fs_FS_Move_fr F p904 p906 p907 r2 r4).bind fun r14 =>
     some (r14.1, r14.2.1, p907, r14.2.2)
def fs_FS_Kind_fr (F : Nat) (p904 : List DElem) (p906 : Int) (p907 : Int) (p908 : ByteArray) (p909 : Int) : Option (ByteArray × Int) :=
 (fs_FS_at_fr F p904 p906 p907 p908 p909).bind fun r1 =>
 bif (r1.2 != 0) then
  some ((ByteArray.mk #[]), r1.2)
 else
  (fs_FS_kind_fr F p904 p906 p907 r1.1 p909).bind fun r2 =>
  some (r2, 0)
def fs_FS_Read_fr (F : Nat) (p904 : List DElem) (p906 : Int) (p907 : Int) (p908 : ByteArray) (p909 : Int) : Option (ByteArray × Int) :=
 (fs_FS_at_fr F p904 p906 p907 p908 p909).bind fun r1 =>
 bif (r1.2 != 0) then
  some ((ByteArray.mk #[]), r1.2)
 else
  (fs_FS_kind_fr F p904 p906 p907 r1.1 p909).bind fun r2 =>
  bif (!(seq r2 (ByteArray.mk #[102]))) then
   some ((ByteArray.mk #[]), 12)
  else
   (file_Get F p904 0 r1.1 p909).bind fun r3 =>
   some (r3.1, r3.2)
def fs_FS_List_fr (F : Nat) (p904 : List DElem) (p906 : Int) (p907 : Int) (p908 : ByteArray) (p909 : Int) : Option ((List ByteArray) × Int) :=
 (fs_FS_at_fr F p904 p906 p907 p908 p909).bind fun r1 =>
 bif (r1.2 != 0) then
  some ([], r1.2)
 else
  (fs_FS_kind_fr F p904 p906 p907 r1.1 p909).bind fun r2 =>
  bif (!(seq r2 (ByteArray.mk #[100]))) then
   some ([], 12)
  else
   (dir_List F p904 0 r1.1 p909).bind fun r3 =>
   some (r3.1, r3.2)
end Go.Proofs.YtacjdfhllomccaaGreatDoor
