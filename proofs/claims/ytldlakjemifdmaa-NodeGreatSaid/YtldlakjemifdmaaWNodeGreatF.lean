/- Pure functions, written by walkgen.py out of the Go functions of group WNodeGreat. Their conditions: none. -/
import Derived.Test.YtldlakjemifdmaaNodeF
import Derived.Test.YtldlakjemifdmaaMap
namespace Go.Proofs.Ytldlakjemifdmaa
set_option linter.unusedVariables false

def annalkeep_NodeGreat (F : Nat) (p0 : DNode) : Option (Bool) :=
  (node_Tid F (DNode.mk 1 [(DElem.mk (DKey.mk 0 0 0) 2 7 (ByteArray.mk #[]))] [] [] [])).bind fun r1 =>
  bif ((r1.1 != 7) || (r1.2 != 0)) then
    some false
  else
    (node_Tid F p0).bind fun r2 =>
    bif (r2.2 != 0) then
      (
        bif (r2.1 == 0) then
            (node_Check F p0).bind fun r3 =>
            some (r2.2 == r3)
          else
            some false : Option (Bool)).bind fun z1 =>
      some z1
    else
      (iter (σ := Bool × Int) (ρ := (Bool) ⊕ Bool) (fun x => match x with
        | (x1, x2) =>
          bif decide (x2 < (p0.elems.length : Int)) then
              (idx p0.elems x2).bind fun e1 =>
              (
                bif x1 then
                    some true
                  else
                    (elem_Last e1).bind fun r4 =>
                    some (r4 == r2.1) : Option (Bool)).bind fun z3 =>
              (elem_Last e1).bind fun r5 =>
              bif decide (r2.1 < r5) then
                some (.inr (.inr false))
              else
                some (.inl (z3, IntKind.i64.wrap (x2 + 1)))
            else
              some (.inr (.inl x1))) F ((r2.1 == 0), 0)).bind fun z => match z with
        | .inl z2 =>
          (iter (σ := Bool × Int) (ρ := (Bool) ⊕ Bool) (fun x => match x with
            | (x3, x4) =>
              bif decide (x4 < (p0.tids.length : Int)) then
                  (idx p0.tids x4).bind fun e2 =>
                  bif decide (r2.1 < e2) then
                    some (.inr (.inr false))
                  else
                    some (.inl ((x3 || (e2 == r2.1)), IntKind.i64.wrap (x4 + 1)))
                else
                  some (.inr (.inl x3))) F (z2, 0)).bind fun z => match z with
            | .inl z4 =>
              some z4
            | .inr q => some q
        | .inr q => some q

end Go.Proofs.Ytldlakjemifdmaa
