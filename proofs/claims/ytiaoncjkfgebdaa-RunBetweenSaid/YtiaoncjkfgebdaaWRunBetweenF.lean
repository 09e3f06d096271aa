/- Pure functions, written by walkgen.py out of the Go functions of group WRunBetween. Their conditions: none. -/
import Derived.Test.YtiaoncjkfgebdaaRunF
import Derived.Test.YtiaoncjkfgebdaaEqsF
import Derived.Test.YtiaoncjkfgebdaaOps
namespace Go.Proofs.Ytiaoncjkfgebdaa
set_option linter.unusedVariables false

def annalkeep_RunBetween (F : Nat) (p0 : (List DElem)) (p1 : DKey) (p2 : DKey) (p3 : Int) : Option (Bool) :=
  (run_Last F [(DElem.mk (DKey.mk 0 0 0) 2 5 (ByteArray.mk #[]))]).bind fun r1 =>
  bif ((r1.1 != 5) || (r1.2 != 0)) then
    some false
  else
    (run_Range F [(DElem.mk (DKey.mk 0 0 0) 2 5 (ByteArray.mk #[]))] (DKey.mk 0 0 0) (DKey.mk 0 0 0) 4).bind fun r2 =>
    bif ((r2.2 != 0) || ((r2.1.length : Int) != 1)) then
      some false
    else
      (run_Range F p0 p1 p2 p3).bind fun r3 =>
      bif (r3.2 != 0) then
        some ((r3.1.length : Int) == 0)
      else
        (iter (σ := Int × Int) (ρ := Int) (fun x => match x with
          | (x1, x2) =>
            bif decide (x2 < (p0.length : Int)) then
                (idx p0 x2).bind fun e1 =>
                (
                  bif ((decide (p3 < e1.made)) && (decide (e1.made < x1))) then
                      some e1.made
                    else
                      some x1 : Option (Int)).bind fun z2 =>
                (
                  bif ((decide (p3 < e1.gone)) && (decide (e1.gone < z2))) then
                      some e1.gone
                    else
                      some z2 : Option (Int)).bind fun z3 =>
                some (.inl (z3, IntKind.i64.wrap (x2 + 1)))
              else
                some (.inr x1)) F (2147483647, 0)).bind fun z1 =>
        (run_Range F p0 p1 p2 (if p3 < (IntKind.i64.wrap (z1 - 1)) then IntKind.i64.wrap (z1 - 1) else p3)).bind fun r4 =>
        (run_Last F p0).bind fun r5 =>
        (run_Range F p0 p1 p2 r5.1).bind fun r6 =>
        (run_Range F p0 p1 p2 2147483647).bind fun r7 =>
        (
          bif (r4.2 == 0) then
              bif (r5.2 == 0) then
                bif (r6.2 == 0) then
                  bif (r7.2 == 0) then
                    (slices_Equal_Elem F r3.1 r4.1).bind fun r8 =>
                    bif r8 then
                      (slices_Equal_Elem F r6.1 r7.1).bind fun r9 =>
                      some r9
                    else
                      some false
                  else
                    some false
                else
                  some false
              else
                some false
            else
              some false : Option (Bool)).bind fun z4 =>
        some z4

end Go.Proofs.Ytiaoncjkfgebdaa
