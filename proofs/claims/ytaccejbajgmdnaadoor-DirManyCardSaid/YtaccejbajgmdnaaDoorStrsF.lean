/- Pure functions, written by walkgen.py out of the Go functions of group Strs. Their conditions: none. -/
import Derived.Test.YtaccejbajgmdnaaDoorKeyF
import Derived.Test.YtaccejbajgmdnaaDoorMap
namespace Go.Proofs.YtaccejbajgmdnaaDoor
set_option linter.unusedVariables false

def cmp_isNaN_string (p0 : ByteArray) : Option (Bool) :=
  some (!(seq p0 p0))

def cmp_Less_string (p0 : ByteArray) (p1 : ByteArray) : Option (Bool) :=
  (
    (cmp_isNaN_string p0).bind fun r1 =>
      bif r1 then
        (cmp_isNaN_string p1).bind fun r2 =>
        bif (!r2) then
          some true
        else
          some (slt p0 p1)
      else
        some (slt p0 p1) : Option (Bool)).bind fun z1 =>
  some z1

def slices_Equal_string (F : Nat) (p0 : (List ByteArray)) (p1 : (List ByteArray)) : Option (Bool) :=
  bif ((p0.length : Int) != (p1.length : Int)) then
    some false
  else
    (iter (σ := Int) (ρ := (Unit) ⊕ Bool) (fun x1 =>
        bif decide (x1 < (p0.length : Int)) then
            (idx p0 x1).bind fun e1 =>
            (idx p1 x1).bind fun e2 =>
            bif (!(seq e1 e2)) then
              some (.inr (.inr false))
            else
              some (.inl (IntKind.i64.wrap (x1 + 1)))
          else
            some (.inr (.inl ()))) F 0).bind fun z => match z with
      | .inl _ =>
        some true
      | .inr q => some q

def slices_Index_string (F : Nat) (p0 : (List ByteArray)) (p1 : ByteArray) : Option (Int) :=
  (iter (σ := Int) (ρ := (Unit) ⊕ Int) (fun x1 =>
      bif decide (x1 < (p0.length : Int)) then
          (idx p0 x1).bind fun e1 =>
          bif (seq p1 e1) then
            some (.inr (.inr x1))
          else
            some (.inl (IntKind.i64.wrap (x1 + 1)))
        else
          some (.inr (.inl ()))) F 0).bind fun z => match z with
    | .inl _ =>
      some (-1)
    | .inr q => some q

def slices_Contains_string (F : Nat) (p0 : (List ByteArray)) (p1 : ByteArray) : Option (Bool) :=
  (slices_Index_string F p0 p1).bind fun r1 =>
  some (decide ((0 : Int) ≤ r1))

def slices_IsSorted_string (F : Nat) (p0 : (List ByteArray)) : Option (Bool) :=
  (iter (σ := Int) (ρ := (Unit) ⊕ Bool) (fun x1 =>
      bif decide ((0 : Int) < x1) then
          (idx p0 x1).bind fun e1 =>
          (idx p0 (IntKind.i64.wrap (x1 - 1))).bind fun e2 =>
          (cmp_Less_string e1 e2).bind fun r1 =>
          bif r1 then
            some (.inr (.inr false))
          else
            some (.inl (IntKind.i64.wrap (x1 - 1)))
        else
          some (.inr (.inl ()))) F (IntKind.i64.wrap ((p0.length : Int) - 1))).bind fun z => match z with
    | .inl _ =>
      some true
    | .inr q => some q

end Go.Proofs.YtaccejbajgmdnaaDoor
