/- Pure functions, written by walkgen.py out of the Go functions of group WNodeWays. Their conditions: none. -/
import Derived.Test.YtldlakjemifdmaaNodeF
import Derived.Test.YtldlakjemifdmaaMap
namespace Go.Proofs.Ytldlakjemifdmaa
set_option linter.unusedVariables false

def annalkeep_NodeWays (F : Nat) (p0 : DNode) (p1 : DSpot) (p2 : DSpot) : Option (Bool) :=
  (node_Kid F (DNode.mk 2 [] [1, 2] [(DSpot.mk (DKey.mk 0 0 0) 5)] [3, 4]) (DSpot.mk (DKey.mk 0 0 0) 5)).bind fun r1 =>
  bif ((r1.1 != 1) || (r1.2 != 0)) then
    some false
  else
    (node_Tid F (DNode.mk 2 [] [1, 2] [(DSpot.mk (DKey.mk 0 0 0) 5)] [3, 4])).bind fun r2 =>
    bif ((r2.1 != 4) || (r2.2 != 0)) then
      some false
    else
      (node_Kid F p0 p1).bind fun r3 =>
      (node_Kid F p0 p2).bind fun r4 =>
      bif ((r3.2 != 0) || (r4.2 != 0)) then
        some ((r3.2 == r4.2) && (r3.1 == 0))
      else
        (
          bif decide (r3.1 < 0) then
              some true
            else
              bif decide ((p0.kids.length : Int) ≤ r3.1) then
                some true
              else
                (key_CmpSpot p1 p2).bind fun r5 =>
                bif decide (r5 ≤ 0) then
                  some (decide (r4.1 < r3.1))
                else
                  some false : Option (Bool)).bind fun z1 =>
        bif z1 then
          some false
        else
          (iter (σ := Int) (ρ := (Unit) ⊕ Bool) (fun x1 =>
              bif decide (x1 < (p0.seps.length : Int)) then
                  (idx p0.seps x1).bind fun e1 =>
                  (node_Kid F p0 e1).bind fun r6 =>
                  bif ((r6.2 != 0) || (r6.1 != (IntKind.i64.wrap (x1 + 1)))) then
                    some (.inr (.inr false))
                  else
                    some (.inl (IntKind.i64.wrap (x1 + 1)))
                else
                  some (.inr (.inl ()))) F 0).bind fun z => match z with
            | .inl _ =>
              (
                bif (r3.1 == 0) then
                    bif (r3.1 == (p0.seps.length : Int)) then
                      some true
                    else
                      (idx p0.seps r3.1).bind fun e4 =>
                      (key_CmpSpot p1 e4).bind fun r9 =>
                      some (decide (r9 < 0))
                  else
                    (idx p0.seps (IntKind.i64.wrap (r3.1 - 1))).bind fun e2 =>
                    (key_CmpSpot e2 p1).bind fun r7 =>
                    bif decide (r7 ≤ 0) then
                      bif (r3.1 == (p0.seps.length : Int)) then
                        some true
                      else
                        (idx p0.seps r3.1).bind fun e3 =>
                        (key_CmpSpot p1 e3).bind fun r8 =>
                        some (decide (r8 < 0))
                    else
                      some false : Option (Bool)).bind fun z2 =>
              some z2
            | .inr q => some q

end Go.Proofs.Ytldlakjemifdmaa
