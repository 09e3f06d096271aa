/- Pure functions, written by walkgen.py out of the Go functions of group Times. Their conditions: none. -/
import Derived.Test.YtaodaihoglcinadSnapF
import Derived.Test.YtaodaihoglcinadSort
import Derived.Test.YtaodaihoglcinadMap
namespace Go.Proofs.Ytaodaihoglcinad
set_option linter.unusedVariables false

def snap_Times (F : Nat) (p0 : (List DSnap)) : Option (((List Int)) × Int) :=
  (snap_Check F p0).bind fun r1 =>
  bif (r1 != 0) then
    some ([], r1)
  else
    (iter (σ := (List Int) × Int) (ρ := (List Int)) (fun x => match x with
      | (x1, x2) =>
        bif decide (x2 < (p0.length : Int)) then
            (idx p0 x2).bind fun e1 =>
            (grow 8 x1 [e1.tid]).bind fun _ =>
            some (.inl ((x1 ++ [e1.tid]), IntKind.i64.wrap (x2 + 1)))
          else
            some (.inr x1)) F ([], 0)).bind fun z1 =>
    (sortO z1).bind fun _ =>
    some ((Lib.compact (isort z1)), 0)

end Go.Proofs.Ytaodaihoglcinad
