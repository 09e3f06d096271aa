/- Pure functions, written by walkgen.py out of the Go functions of group Run. Their conditions: none. -/
import Derived.Test.YtacjdfhllomccaaGreatDoorKeyFJ
import Derived.Test.YtacjdfhllomccaaGreatDoorMapJ
namespace Go.Proofs.YtacjdfhllomccaaGreatDoor
set_option linter.unusedVariables false
def run_Check (F : Nat) (p0 : (List DElem)) : Option (Int) :=
 bif decide ((400 : Int) < (p0.length : Int)) then
  some 2
 else
  (iter (σ := Int) (ρ := (Unit) ⊕ Int) (fun x1 =>
   bif decide (x1 < (p0.length : Int)) then
    (
     (idx p0 x1).bind fun e1 =>
      (elem_Check e1).bind fun r1 =>
      bif (r1 != 0) then
       some (.inr (.inr (.inr r1)))
      else
       bif (x1 == 0) then
        some (.inl ())
       else
        (idx p0 (IntKind.i64.wrap (x1 - 1))).bind fun e2 =>
        (
         (elem_Spot e2).bind fun r2 =>
          (elem_Spot e1).bind fun r3 =>
          (key_CmpSpot r2 r3).bind fun r4 =>
          bif decide ((0 : Int) ≤ r4) then
           some true
          else
           bif (e2.key == e1.key) then
            bif (e2.gone == 0) then
             some true
            else
             some (decide (e1.made < e2.gone))
           else
            some false : Option (Bool)).bind fun z1 =>
        bif z1 then
         some (.inr (.inr (.inr 3)))
        else
         some (.inl ()) : Option ((Unit) ⊕ ((Int) ⊕ ((Unit) ⊕ Int)))).bind fun z => match z with
     | .inl _ =>
      some (.inl (IntKind.i64.wrap (x1 + 1)))
     | .inr q => some q
    else
     some (.inr (.inl ()))) F 0).bind fun z => match z with
   | .inl _ =>
    some 0
   | .inr q => some q
def run_last (F : Nat) (p0 : (List DElem)) : Option (Int) :=
 (iter (σ := Int × Int) (ρ := Int) (fun x => match x with
  | (x1, x2) =>
   bif decide (x2 < (p0.length : Int)) then
    (idx p0 x2).bind fun e1 =>
    (elem_Last e1).bind fun r1 =>
    some (.inl ((if x1 < r1 then r1 else x1), IntKind.i64.wrap (x2 + 1)))
    else
     some (.inr x1)) F (0, 0)).bind fun z1 =>
 some z1
def run_place (F : Nat) (p0 : (List DElem)) (p1 : DSpot) : Option (Int) :=
 (
  (iter (σ := Int × Int) (ρ := Int) (fun x => match x with
   | (x1, x2) =>
    bif decide (x1 < x2) then
     (
      (idx p0 (IntKind.i64.wrap (shr .u64 (IntKind.u64.wrap (IntKind.i64.wrap (x1 + x2))) 1))).bind fun e1 =>
       (elem_Spot e1).bind fun r1 =>
       (key_CmpSpot r1 p1).bind fun r2 =>
       some (decide ((0 : Int) ≤ r2)) : Option (Bool)).bind fun z3 =>
     bif (!z3) then
      some (.inl (IntKind.i64.wrap ((IntKind.i64.wrap (shr .u64 (IntKind.u64.wrap (IntKind.i64.wrap (x1 + x2))) 1)) + 1), x2))
     else
      some (.inl (x1, IntKind.i64.wrap (shr .u64 (IntKind.u64.wrap (IntKind.i64.wrap (x1 + x2))) 1)))
     else
      some (.inr x1)) F (0, (p0.length : Int))).bind fun z2 =>
   some z2 : Option (Int)).bind fun z1 =>
 some z1
def run_now (F : Nat) (p0 : (List DElem)) (p1 : DKey) : Option (Int) :=
 (run_place F p0 (DSpot.mk p1 2147483648)).bind fun r1 =>
 (
  bif decide ((IntKind.i64.wrap (r1 - 1)) < 0) then
   some true
   else
    (idx p0 (IntKind.i64.wrap (r1 - 1))).bind fun e1 =>
    bif (!(e1.key == p1)) then
     some true
    else
     (idx p0 (IntKind.i64.wrap (r1 - 1))).bind fun e2 =>
     some (e2.gone != 0) : Option (Bool)).bind fun z1 =>
 bif z1 then
  some (-1)
 else
  some (IntKind.i64.wrap (r1 - 1))
def run_At (F : Nat) (p0 : (List DElem)) (p1 : DKey) (p2 : Int) : Option (DElem × Int) :=
 (run_Check F p0).bind fun r1 =>
 bif (r1 != 0) then
  some ((DElem.mk (DKey.mk 0 0 0) 0 0 (ByteArray.mk #[])), r1)
 else
  (key_Check p1).bind fun r2 =>
  bif (r2 != 0) then
   some ((DElem.mk (DKey.mk 0 0 0) 0 0 (ByteArray.mk #[])), r2)
  else
   (iter (σ := Int) (ρ := (Unit) ⊕ (DElem × Int)) (fun x1 =>
    bif decide (x1 < (p0.length : Int)) then
     (idx p0 x1).bind fun e1 =>
     (
      bif (e1.key == p1) then
       (elem_Live e1 p2).bind fun r3 =>
       some r3
       else
        some false : Option (Bool)).bind fun z1 =>
     bif z1 then
      some (.inr (.inr (e1, 0)))
     else
      some (.inl (IntKind.i64.wrap (x1 + 1)))
     else
      some (.inr (.inl ()))) F 0).bind fun z => match z with
    | .inl _ =>
     some ((DElem.mk (DKey.mk 0 0 0) 0 0 (ByteArray.mk #[])), 4)
    | .inr q => some q
def run_Put (F : Nat) (p0 : (List DElem)) (p1 : DKey) (p2 : ByteArray) (p3 : Int) : Option (((List DElem)) × Int) :=
 (run_Check F p0).bind fun r1 =>
 bif (r1 != 0) then
  some ([], r1)
 else
  (elem_Check (DElem.mk p1 p3 0 p2)).bind fun r2 =>
  bif (r2 != 0) then
   some ([], r2)
  else
   (run_last F p0).bind fun r3 =>
   bif decide (p3 < r3) then
    some ([], 9)
   else
    (grow 56 ([] : List DElem) p0).bind fun _ =>
    (
     (run_now F (([] : List DElem) ++ p0) p1).bind fun r5 =>
      bif decide ((0 : Int) ≤ r5) then
       (idx (([] : List DElem) ++ p0) r5).bind fun e1 =>
       bif (e1.made == p3) then
        (idx (([] : List DElem) ++ p0) r5).bind fun e2 =>
        some (.inr (((([] : List DElem) ++ p0).set r5.toNat (DElem.mk e2.key e2.made e2.gone p2)), 0))
       else
        (idx (([] : List DElem) ++ p0) r5).bind fun e3 =>
        some (.inl ((([] : List DElem) ++ p0).set r5.toNat (DElem.mk e3.key e3.made p3 e3.val)))
      else
       some (.inl (([] : List DElem) ++ p0)) : Option (((List DElem)) ⊕ (((List DElem)) × Int))).bind fun z => match z with
     | .inl z1 =>
      bif ((z1.length : Int) == 400) then
       some ([], 8)
      else
       (run_place F z1 (DSpot.mk p1 p3)).bind fun r6 =>
       (grow 56 z1 [(DElem.mk (DKey.mk 0 0 0) 0 0 (ByteArray.mk #[]))]).bind fun _ =>
       (lslice (z1 ++ [(DElem.mk (DKey.mk 0 0 0) 0 0 (ByteArray.mk #[]))]) (IntKind.i64.wrap (r6 + 1)) ((z1 ++ [(DElem.mk (DKey.mk 0 0 0) 0 0 (ByteArray.mk #[]))]).length : Int)).bind fun s1 =>
       (lslice (z1 ++ [(DElem.mk (DKey.mk 0 0 0) 0 0 (ByteArray.mk #[]))]) r6 ((z1 ++ [(DElem.mk (DKey.mk 0 0 0) 0 0 (ByteArray.mk #[]))]).length : Int)).bind fun s2 =>
       (idx (over (z1 ++ [(DElem.mk (DKey.mk 0 0 0) 0 0 (ByteArray.mk #[]))]) ((IntKind.i64.wrap (r6 + 1)).toNat) (s2.take s1.length)) r6).bind fun e4 =>
       some (((over (z1 ++ [(DElem.mk (DKey.mk 0 0 0) 0 0 (ByteArray.mk #[]))]) ((IntKind.i64.wrap (r6 + 1)).toNat) (s2.take s1.length)).set r6.toNat (DElem.mk p1 p3 0 p2)), 0)
     | .inr q => some q
def run_Cut (F : Nat) (p0 : (List DElem)) (p1 : DKey) (p2 : Int) : Option (((List DElem)) × Int) :=
 (run_Check F p0).bind fun r1 =>
 bif (r1 != 0) then
  some ([], r1)
 else
  (key_Check p1).bind fun r2 =>
  bif (r2 != 0) then
   some ([], r2)
  else
   (
    bif decide (p2 < 1) then
     some true
     else
      bif decide ((2147483647 : Int) < p2) then
       some true
      else
       (run_last F p0).bind fun r3 =>
       some (decide (p2 < r3)) : Option (Bool)).bind fun z1 =>
   bif z1 then
    some ([], 9)
   else
    (run_now F p0 p1).bind fun r4 =>
    bif decide (r4 < 0) then
     some ([], 4)
    else
     (grow 56 ([] : List DElem) p0).bind fun _ =>
     (idx (([] : List DElem) ++ p0) r4).bind fun e1 =>
     bif (e1.made == p2) then
      (lslice (([] : List DElem) ++ p0) 0 r4).bind fun s1 =>
      (lslice (([] : List DElem) ++ p0) (IntKind.i64.wrap (r4 + 1)) ((([] : List DElem) ++ p0).length : Int)).bind fun s2 =>
      (grow 56 s1 s2).bind fun y2 =>
      some ((s1 ++ s2), 0)
     else
      (idx (([] : List DElem) ++ p0) r4).bind fun e2 =>
      some (((([] : List DElem) ++ p0).set r4.toNat (DElem.mk e2.key e2.made p2 e2.val)), 0)
def run_Last (F : Nat) (p0 : (List DElem)) : Option (Int × Int) :=
 (run_Check F p0).bind fun r1 =>
 bif (r1 != 0) then
  some (0, r1)
 else
  (run_last F p0).bind fun r2 =>
  some (r2, 0)
end Go.Proofs.YtacjdfhllomccaaGreatDoor
