/- Pure functions, written by walkgen.py out of the Go functions of group File. Their conditions: none. -/
import Derived.Test.YtacjdfhllomccaaGreatDoorRunFJ
import Derived.Test.YtacjdfhllomccaaGreatDoorMapJ
namespace Go.Proofs.YtacjdfhllomccaaGreatDoor
set_option linter.unusedVariables false
def file_block (p0 : Int) (p1 : Int) (p2 : Int) : Option (DKey) :=
 some (DKey.mk p0 p1 (IntKind.i64.wrap (1 + p2)))
def file_look (F : Nat) (p0 : (List DElem)) (p1 : Int) (p2 : Int) : Option (Int) :=
 (run_Check F p0).bind fun r1 =>
 bif (r1 != 0) then
  some r1
 else
  (file_block p1 p2 0).bind fun r2 =>
  (key_Check r2).bind fun r3 =>
  some r3
def file_Get (F : Nat) (p0 : (List DElem)) (p1 : Int) (p2 : Int) (p3 : Int) : Option (ByteArray × Int) :=
 (file_look F p0 p1 p2).bind fun r1 =>
 bif (r1 != 0) then
  some ((ByteArray.mk #[]), r1)
 else
  (
   (iter (σ := (List (Int × ByteArray)) × Int) (ρ := (List (Int × ByteArray))) (fun x => match x with
    | (x1, x2) =>
     bif decide (x2 < (p0.length : Int)) then
      (
       (idx p0 x2).bind fun e1 =>
        (
         bif (e1.key.pfs == p1) then
          bif (e1.key.obj == p2) then
           bif decide ((0 : Int) ≤ (IntKind.i64.wrap (e1.key.off - 1))) then
            bif decide ((IntKind.i64.wrap (e1.key.off - 1)) < 20) then
             (elem_Live e1 p3).bind fun r2 =>
             some r2
            else
             some false
           else
            some false
          else
           some false
          else
           some false : Option (Bool)).bind fun z4 =>
        bif z4 then
         some (mput x1 (IntKind.i64.wrap (e1.key.off - 1)) e1.val)
        else
         some x1 : Option ((List (Int × ByteArray)))).bind fun z3 =>
      some (.inl (z3, IntKind.i64.wrap (x2 + 1)))
      else
       some (.inr x1)) F ([], 0)).bind fun z2 =>
    some z2 : Option ((List (Int × ByteArray)))).bind fun z1 =>
  (iter (σ := ByteArray × Int) (ρ := ByteArray) (fun x => match x with
   | (x3, x4) =>
    bif decide (x4 < 20) then
     (scat x3 (mget z1 x4)).bind fun s3 =>
     some (.inl (s3, IntKind.i64.wrap (x4 + 1)))
     else
      some (.inr x3)) F ((ByteArray.mk #[]), 0)).bind fun z5 =>
  some (z5, 0)
def file_Set (F : Nat) (p0 : (List DElem)) (p1 : Int) (p2 : Int) (p3 : ByteArray) (p4 : Int) : Option (((List DElem)) × Int) :=
 (file_look F p0 p1 p2).bind fun r1 =>
 bif (r1 != 0) then
  some ([], r1)
 else
  bif decide ((320 : Int) < (p3.size : Int)) then
   some ([], 2)
  else
   (run_Last F p0).bind fun r2 =>
   bif ((decide (p4 < 1)) || ((decide ((2147483647 : Int) < p4)) || (decide (p4 < r2.1)))) then
    some ([], 9)
   else
    (
     (iter (σ := (List (Int × ByteArray)) × Int) (ρ := (List (Int × ByteArray))) (fun x => match x with
      | (x1, x2) =>
       bif decide (x2 < (p0.length : Int)) then
        (
         (idx p0 x2).bind fun e1 =>
          (
           bif (e1.key.pfs == p1) then
            bif (e1.key.obj == p2) then
             bif decide ((0 : Int) ≤ (IntKind.i64.wrap (e1.key.off - 1))) then
              bif decide ((IntKind.i64.wrap (e1.key.off - 1)) < 20) then
               (elem_Live e1 2147483647).bind fun r3 =>
               some r3
              else
               some false
             else
              some false
            else
             some false
            else
             some false : Option (Bool)).bind fun z4 =>
          bif z4 then
           some (mput x1 (IntKind.i64.wrap (e1.key.off - 1)) e1.val)
          else
           some x1 : Option ((List (Int × ByteArray)))).bind fun z3 =>
        some (.inl (z3, IntKind.i64.wrap (x2 + 1)))
        else
         some (.inr x1)) F ([], 0)).bind fun z2 =>
      some z2 : Option ((List (Int × ByteArray)))).bind fun z1 =>
    (grow 56 ([] : List DElem) p0).bind fun _ =>
    (iter (σ := (List DElem) × Int) (ρ := ((List DElem)) ⊕ (((List DElem)) × Int)) (fun x => match x with
     | (x3, x4) =>
      bif decide (x4 < 20) then
       (
        (
         bif decide ((IntKind.i64.wrap (x4 * 16)) < (p3.size : Int)) then
          (sslice p3 (IntKind.i64.wrap (x4 * 16)) (if (IntKind.i64.wrap ((IntKind.i64.wrap (x4 * 16)) + 16)) < (p3.size : Int) then IntKind.i64.wrap ((IntKind.i64.wrap (x4 * 16)) + 16) else (p3.size : Int))).bind fun s3 =>
          bif ((mhas z1 x4) && (seq (mget z1 x4) s3)) then
           some (.inr (.inl x3))
          else
           (file_block p1 p2 x4).bind fun r5 =>
           (run_Put F x3 r5 s3 p4).bind fun r6 =>
           some (.inl (r6.1, r6.2))
          else
           bif (mhas z1 x4) then
            (file_block p1 p2 x4).bind fun r7 =>
            (run_Cut F x3 r7 p4).bind fun r8 =>
            some (.inl (r8.1, r8.2))
           else
            some (.inl (x3, 0)) : Option (((List DElem) × Int) ⊕ (((List DElem)) ⊕ (((List DElem) × Int) ⊕ (((List DElem)) ⊕ (((List DElem)) × Int)))))).bind fun z => match z with
         | .inl (z7, z8) =>
          bif (z8 != 0) then
           some (.inr (.inr (.inr ([], z8))))
          else
           some (.inl z7)
         | .inr q => some q : Option (((List DElem)) ⊕ (((List DElem) × Int) ⊕ (((List DElem)) ⊕ (((List DElem)) × Int))))).bind fun z => match z with
        | .inl z6 =>
         some (.inl (z6, IntKind.i64.wrap (x4 + 1)))
        | .inr q => some q
       else
        some (.inr (.inl x3))) F ((([] : List DElem) ++ p0), 0)).bind fun z => match z with
     | .inl z5 =>
      some (z5, 0)
     | .inr q => some q
end Go.Proofs.YtacjdfhllomccaaGreatDoor
