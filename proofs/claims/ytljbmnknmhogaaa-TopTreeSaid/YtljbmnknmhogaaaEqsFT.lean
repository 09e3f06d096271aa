/- Pure functions of group Eqs. Conditions: none. -/
import Derived.Test.YtljbmnknmhogaaaKeyFT
import Derived.Test.YtljbmnknmhogaaaMapT
namespace Go.Proofs.Ytljbmnknmhogaaa
set_option linter.unusedVariables false
def kz (F:Nat) (p0:(List DElem)) (p1:(List DElem)) : Option (Bool) :=
 bif ((p0.length:Int) != (p1.length:Int)) then
  some false
 else
  (iter (σ:=Int) (ρ:=(Unit) ⊕ Bool) (fun x1 =>
   bif decide (x1 < (p0.length:Int)) then
    (idx p0 x1).bind fun e1 =>
    (idx p1 x1).bind fun e2 =>
    bif (!(e1 == e2)) then
     some (.inr (.inr false))
    else
     some (.inl (IntKind.i64.wrap (x1 + 1)))
    else
     some (.inr (.inl ()))) F 0).bind fun z=>match z with
   | .inl _ =>
    some true
   | .inr q=>some q
end Go.Proofs.Ytljbmnknmhogaaa
