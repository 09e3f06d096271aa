/- Pure functions, written by walkgen.py out of the Go functions of group Snap. Their conditions: none. -/
import Derived.Test.YtaodaihoglcinadKeyF
import Derived.Test.YtaodaihoglcinadMap
namespace Go.Proofs.Ytaodaihoglcinad
set_option linter.unusedVariables false

def dir_Name (F : Nat) (p0 : ByteArray) : Option (Bool) :=
  bif ((seq p0 (ByteArray.mk #[])) || ((decide ((12 : Int) < (p0.size : Int))) || ((seq p0 (ByteArray.mk #[46])) || (seq p0 (ByteArray.mk #[46, 46]))))) then
    some false
  else
    (iter (σ := Int) (ρ := (Unit) ⊕ Bool) (fun x1 =>
        bif decide (x1 < (p0.size : Int)) then
            (
              (sidx p0 x1).bind fun b1 =>
                bif decide ((b1.toNat : Int) ≤ 32) then
                  some true
                else
                  (sidx p0 x1).bind fun b2 =>
                  bif decide ((127 : Int) ≤ (b2.toNat : Int)) then
                    some true
                  else
                    (sidx p0 x1).bind fun b3 =>
                    bif ((b3.toNat : Int) == 47) then
                      some true
                    else
                      (sidx p0 x1).bind fun b4 =>
                      some ((b4.toNat : Int) == 64) : Option (Bool)).bind fun z1 =>
            bif z1 then
              some (.inr (.inr false))
            else
              some (.inl (IntKind.i64.wrap (x1 + 1)))
          else
            some (.inr (.inl ()))) F 0).bind fun z => match z with
      | .inl _ =>
        some true
      | .inr q => some q

def snap_Check (F : Nat) (p0 : (List DSnap)) : Option (Int) :=
  bif decide ((20 : Int) < (p0.length : Int)) then
    some 2
  else
    (iter (σ := Int) (ρ := (Unit) ⊕ Int) (fun x1 =>
        bif decide (x1 < (p0.length : Int)) then
            (idx p0 x1).bind fun e1 =>
            (
              (dir_Name F e1.name).bind fun r1 =>
                bif (!r1) then
                  some true
                else
                  bif decide ((0 : Int) < x1) then
                    (idx p0 (IntKind.i64.wrap (x1 - 1))).bind fun e2 =>
                    some (!(slt e2.name e1.name))
                  else
                    some false : Option (Bool)).bind fun z1 =>
            bif z1 then
              some (.inr (.inr 3))
            else
              bif ((decide (e1.tid < 0)) || (decide ((2147483647 : Int) < e1.tid))) then
                some (.inr (.inr 9))
              else
                some (.inl (IntKind.i64.wrap (x1 + 1)))
          else
            some (.inr (.inl ()))) F 0).bind fun z => match z with
      | .inl _ =>
        some 0
      | .inr q => some q

def snap_place (F : Nat) (p0 : (List DSnap)) (p1 : ByteArray) : Option (Int × Bool) :=
  (
    (iter (σ := Int × Int) (ρ := Int) (fun x => match x with
        | (x1, x2) =>
          bif decide (x1 < x2) then
              (
                (idx p0 (IntKind.i64.wrap (shr .u64 (IntKind.u64.wrap (IntKind.i64.wrap (x1 + x2))) 1))).bind fun e1 =>
                  some (!(slt e1.name p1)) : Option (Bool)).bind fun z3 =>
              bif (!z3) then
                some (.inl (IntKind.i64.wrap ((IntKind.i64.wrap (shr .u64 (IntKind.u64.wrap (IntKind.i64.wrap (x1 + x2))) 1)) + 1), x2))
              else
                some (.inl (x1, IntKind.i64.wrap (shr .u64 (IntKind.u64.wrap (IntKind.i64.wrap (x1 + x2))) 1)))
            else
              some (.inr x1)) F (0, (p0.length : Int))).bind fun z2 =>
      some z2 : Option (Int)).bind fun z1 =>
  (
    bif decide (z1 < (p0.length : Int)) then
        (idx p0 z1).bind fun e2 =>
        some (seq e2.name p1)
      else
        some false : Option (Bool)).bind fun z4 =>
  some (z1, z4)

def snap_Find (F : Nat) (p0 : (List DSnap)) (p1 : ByteArray) : Option (Int × Int) :=
  (snap_Check F p0).bind fun r1 =>
  bif (r1 != 0) then
    some (0, r1)
  else
    (snap_place F p0 p1).bind fun r2 =>
    bif (!r2.2) then
      some (0, 4)
    else
      (idx p0 r2.1).bind fun e1 =>
      some (e1.tid, 0)

end Go.Proofs.Ytaodaihoglcinad
