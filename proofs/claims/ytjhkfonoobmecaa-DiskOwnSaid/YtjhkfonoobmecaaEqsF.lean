/- Pure functions, written by walkgen.py out of the Go functions of group Eqs. Their conditions: none. -/
import Derived.Test.YtjhkfonoobmecaaMap
namespace Go.Proofs.Ytjhkfonoobmecaa
set_option linter.unusedVariables false

def slices_Equal_Write (F : Nat) (p0 : (List DWrite)) (p1 : (List DWrite)) : Option (Bool) :=
  bif ((p0.length : Int) != (p1.length : Int)) then
    some false
  else
    (iter (σ := Int) (ρ := (Unit) ⊕ Bool) (fun x1 =>
        bif decide (x1 < (p0.length : Int)) then
            (idx p0 x1).bind fun e1 =>
            (idx p1 x1).bind fun e2 =>
            bif (!(e1 == e2)) then
              some (.inr (.inr false))
            else
              some (.inl (IntKind.i64.wrap (x1 + 1)))
          else
            some (.inr (.inl ()))) F 0).bind fun z => match z with
      | .inl _ =>
        some true
      | .inr q => some q

def slices_Equal_string (F : Nat) (p0 : (List ByteArray)) (p1 : (List ByteArray)) : Option (Bool) :=
  bif ((p0.length : Int) != (p1.length : Int)) then
    some false
  else
    (iter (σ := Int) (ρ := (Unit) ⊕ Bool) (fun x1 =>
        bif decide (x1 < (p0.length : Int)) then
            (idx p0 x1).bind fun e1 =>
            (idx p1 x1).bind fun e2 =>
            bif (!(seq e1 e2)) then
              some (.inr (.inr false))
            else
              some (.inl (IntKind.i64.wrap (x1 + 1)))
          else
            some (.inr (.inl ()))) F 0).bind fun z => match z with
      | .inl _ =>
        some true
      | .inr q => some q

end Go.Proofs.Ytjhkfonoobmecaa
