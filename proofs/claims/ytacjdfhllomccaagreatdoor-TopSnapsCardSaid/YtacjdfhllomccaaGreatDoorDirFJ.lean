/- Pure functions, written by walkgen.py out of the Go functions of group Dir. Their conditions: none. -/
import Derived.Test.YtacjdfhllomccaaGreatDoorRunFJ
import Derived.Test.YtacjdfhllomccaaGreatDoorCodeFJ
import Derived.Test.YtacjdfhllomccaaGreatDoorLibFJ
import Derived.Test.YtacjdfhllomccaaGreatDoorMapJ
namespace Go.Proofs.YtacjdfhllomccaaGreatDoor
set_option linter.unusedVariables false
def dir_Name (F : Nat) (p0 : ByteArray) : Option (Bool) :=
 bif ((seq p0 (ByteArray.mk #[])) || ((decide ((12 : Int) < (p0.size : Int))) || ((seq p0 (ByteArray.mk #[46])) || (seq p0 (ByteArray.mk #[46, 46]))))) then
  some false
 else
  (iter (σ := Int) (ρ := (Unit) ⊕ Bool) (fun x1 =>
   bif decide (x1 < (p0.size : Int)) then
    (
     (sidx p0 x1).bind fun b1 =>
      bif decide ((b1.toNat : Int) ≤ 32) then
       some true
      else
       (sidx p0 x1).bind fun b2 =>
       bif decide ((127 : Int) ≤ (b2.toNat : Int)) then
        some true
       else
        (sidx p0 x1).bind fun b3 =>
        bif ((b3.toNat : Int) == 47) then
         some true
        else
         (sidx p0 x1).bind fun b4 =>
         some ((b4.toNat : Int) == 64) : Option (Bool)).bind fun z1 =>
    bif z1 then
     some (.inr (.inr false))
    else
     some (.inl (IntKind.i64.wrap (x1 + 1)))
    else
     some (.inr (.inl ()))) F 0).bind fun z => match z with
   | .inl _ =>
    some true
   | .inr q => some q
def dir_slot (F : Nat) (p0 : Int) (p1 : Int) (p2 : ByteArray) (p3 : Int) : Option (DKey) :=
 (sum_Of F p2).bind fun r1 =>
 some (DKey.mk p0 p1 (IntKind.i64.wrap ((IntKind.i64.wrap (1000000 + (IntKind.i64.wrap (((r1 : Int).tmod 1000) * 8)))) + p3)))
def dir_entry (F : Nat) (p0 : DElem) : Option (ByteArray × Int × Bool) :=
 (strings_Cut p0.val (ByteArray.mk #[58])).bind fun r1 =>
 (strconv_Atoi r1.1).bind fun r2 =>
 (
  bif (!r1.2.2) then
   some true
   else
    bif r2.2 then
     some true
    else
     (strconv_Itoa r2.1).bind fun r3 =>
     bif (!(seq r3 r1.1)) then
      some true
     else
      bif decide (r2.1 < 0) then
       some true
      else
       bif decide ((1048576 : Int) < r2.1) then
        some true
       else
        (dir_Name F r1.2.1).bind fun r4 =>
        some (!r4) : Option (Bool)).bind fun z1 =>
 bif z1 then
  some ((ByteArray.mk #[]), 0, false)
 else
  (dir_slot F p0.key.pfs p0.key.obj r1.2.1 0).bind fun r5 =>
  some (r1.2.1, r2.1, ((decide (r5.off ≤ p0.key.off)) && (decide (p0.key.off < (IntKind.i64.wrap (r5.off + 8))))))
def dir_look (F : Nat) (p0 : (List DElem)) (p1 : Int) (p2 : Int) : Option (Int) :=
 (run_Check F p0).bind fun r1 =>
 bif (r1 != 0) then
  some r1
 else
  (key_Check (DKey.mk p1 p2 0)).bind fun r2 =>
  some r2
def dir_find (F : Nat) (p0 : (List DElem)) (p1 : Int) (p2 : Int) (p3 : ByteArray) (p4 : Int) : Option (DElem × Int × Bool) :=
 (iter (σ := Int) (ρ := (Unit) ⊕ (DElem × Int × Bool)) (fun x1 =>
  bif decide (x1 < (p0.length : Int)) then
   (
    (idx p0 x1).bind fun e1 =>
     (
      bif (e1.key.pfs != p1) then
       some true
       else
        bif (e1.key.obj != p2) then
         some true
        else
         (elem_Live e1 p4).bind fun r1 =>
         some (!r1) : Option (Bool)).bind fun z1 =>
     bif z1 then
      some (.inl ())
     else
      (dir_entry F e1).bind fun r2 =>
      bif (r2.2.2 && (seq r2.1 p3)) then
       some (.inr (.inr (.inr (e1, r2.2.1, true))))
      else
       some (.inl ()) : Option ((Unit) ⊕ ((Int) ⊕ ((Unit) ⊕ (DElem × Int × Bool))))).bind fun z => match z with
    | .inl _ =>
     some (.inl (IntKind.i64.wrap (x1 + 1)))
    | .inr q => some q
   else
    some (.inr (.inl ()))) F 0).bind fun z => match z with
  | .inl _ =>
   some ((DElem.mk (DKey.mk 0 0 0) 0 0 (ByteArray.mk #[])), 0, false)
  | .inr q => some q
def dir_Find (F : Nat) (p0 : (List DElem)) (p1 : Int) (p2 : Int) (p3 : ByteArray) (p4 : Int) : Option (Int × Int) :=
 (dir_look F p0 p1 p2).bind fun r1 =>
 bif (r1 != 0) then
  some (0, r1)
 else
  (dir_Name F p3).bind fun r2 =>
  bif (!r2) then
   some (0, 3)
  else
   (dir_find F p0 p1 p2 p3 p4).bind fun r3 =>
   bif (!r3.2.2) then
    some (0, 4)
   else
    some (r3.2.1, 0)
def dir_Add (F : Nat) (p0 : (List DElem)) (p1 : Int) (p2 : Int) (p3 : ByteArray) (p4 : Int) (p5 : Int) : Option (((List DElem)) × Int) :=
 (dir_look F p0 p1 p2).bind fun r1 =>
 bif (r1 != 0) then
  some ([], r1)
 else
  (dir_Name F p3).bind fun r2 =>
  bif (!r2) then
   some ([], 3)
  else
   bif ((decide (p4 < 0)) || (decide ((1048576 : Int) < p4))) then
    some ([], 1)
   else
    (dir_find F p0 p1 p2 p3 2147483647).bind fun r3 =>
    bif r3.2.2 then
     some ([], 5)
    else
     (iter (σ := Int) (ρ := (Unit) ⊕ (((List DElem)) × Int)) (fun x1 =>
      bif decide (x1 < 8) then
       (dir_slot F p1 p2 p3 x1).bind fun r4 =>
       (run_At F p0 r4 2147483647).bind fun r5 =>
       bif (r5.2 == 4) then
        (strconv_Itoa p4).bind fun r6 =>
        (scat r6 (ByteArray.mk #[58])).bind fun s1 =>
        (scat s1 p3).bind fun s2 =>
        (run_Put F p0 r4 s2 p5).bind fun r7 =>
        some (.inr (.inr (r7.1, r7.2)))
       else
        some (.inl (IntKind.i64.wrap (x1 + 1)))
       else
        some (.inr (.inl ()))) F 0).bind fun z => match z with
      | .inl _ =>
       some ([], 8)
      | .inr q => some q
end Go.Proofs.YtacjdfhllomccaaGreatDoor
