/- Pure functions, written by walkgen.py out of the Go functions of group WRunOnce. Their conditions: none. -/
import Derived.Test.YtiaoncjkfgebdaaRunF
import Derived.Test.YtiaoncjkfgebdaaEqsF
import Derived.Test.YtiaoncjkfgebdaaClear
import Derived.Test.YtiaoncjkfgebdaaMap
namespace Go.Proofs.Ytiaoncjkfgebdaa
set_option linter.unusedVariables false

def annalkeep_RunOnce (F : Nat) (p0 : (List DElem)) (p1 : DKey) (p2 : DKey) (p3 : DKey) (p4 : Int) : Option (Bool) :=
  (annalkeep_at1 1 (ByteArray.mk #[97])).bind fun r1 =>
  (annalkeep_at1 2 (ByteArray.mk #[98])).bind fun r2 =>
  (annalkeep_at1 3 (ByteArray.mk #[99])).bind fun r3 =>
  (run_Range F [r1, r2, r3] (DKey.mk 0 0 2) (DKey.mk 0 0 3) 1).bind fun r4 =>
  bif ((r4.2 != 0) || ((r4.1.length : Int) != 2)) then
    some false
  else
    (run_Range F p0 p1 p3 p4).bind fun r5 =>
    bif (r5.2 != 0) then
      some ((r5.1.length : Int) == 0)
    else
      (iter (σ := Int) (ρ := (Unit) ⊕ Bool) (fun x1 =>
          bif decide (x1 < (r5.1.length : Int)) then
              (idx r5.1 x1).bind fun e1 =>
              (run_At F p0 e1.key p4).bind fun r6 =>
              (
                bif (r6.2 != 0) then
                    some true
                  else
                    bif (!(e1 == r6.1)) then
                      some true
                    else
                      bif decide ((0 : Int) < x1) then
                        (idx r5.1 (IntKind.i64.wrap (x1 - 1))).bind fun e2 =>
                        (key_Cmp e2.key e1.key).bind fun r7 =>
                        some (decide ((0 : Int) ≤ r7))
                      else
                        some false : Option (Bool)).bind fun z1 =>
              bif z1 then
                some (.inr (.inr false))
              else
                some (.inl (IntKind.i64.wrap (x1 + 1)))
            else
              some (.inr (.inl ()))) F 0).bind fun z => match z with
        | .inl _ =>
          (
            (key_Check p2).bind fun r8 =>
              bif (r8 != 0) then
                some true
              else
                (key_Cmp p1 p2).bind fun r9 =>
                bif decide ((0 : Int) < r9) then
                  some true
                else
                  (key_Cmp p2 p3).bind fun r10 =>
                  some (decide ((0 : Int) < r10)) : Option (Bool)).bind fun z2 =>
          bif z2 then
            some true
          else
            (run_Range F p0 p1 p2 p4).bind fun r11 =>
            (run_Range F p0 p2 p3 p4).bind fun r12 =>
            (run_Range F p0 p2 p2 p4).bind fun r13 =>
            (
              bif (r11.2 == 0) then
                  bif (r12.2 == 0) then
                    bif (r13.2 == 0) then
                      (lslice r12.1 (if (r12.1.length : Int) < (r13.1.length : Int) then (r12.1.length : Int) else (r13.1.length : Int)) (r12.1.length : Int)).bind fun s1 =>
                      (
                        bif decide ((IntKind.i64.wrap (0 + (r11.1.length : Int))) < 0) then
                            none
                          else
                            bif decide ((IntKind.i64.wrap ((IntKind.i64.wrap (0 + (r11.1.length : Int))) + (s1.length : Int))) < 0) then
                              none
                            else
                              (
                                (
                                    bif decide ((0 : Int) < (IntKind.i64.wrap ((IntKind.i64.wrap ((IntKind.i64.wrap (0 + (r11.1.length : Int))) + (s1.length : Int))) - 0))) then
                                        (noughts 56 (IntKind.i64.wrap ((IntKind.i64.wrap ((IntKind.i64.wrap (0 + (r11.1.length : Int))) + (s1.length : Int))) - 0))).bind fun u11 =>
                                        (lslice (List.replicate ((IntKind.i64.wrap ((IntKind.i64.wrap ((IntKind.i64.wrap (0 + (r11.1.length : Int))) + (s1.length : Int))) - 0)).toNat) ((DElem.mk (DKey.mk 0 0 0) 0 0 (ByteArray.mk #[])) : DElem)) 0 0).bind fun s2 =>
                                        some s2
                                      else
                                        some [] : Option ((List DElem))).bind fun z6 =>
                                  some z6 : Option ((List DElem))).bind fun z5 =>
                              (grow 56 z5 r11.1).bind fun _ =>
                              (grow 56 (z5 ++ r11.1) s1).bind fun _ =>
                              some ((z5 ++ r11.1) ++ s1) : Option ((List DElem))).bind fun z4 =>
                      (slices_Equal_Elem F r5.1 z4).bind fun r16 =>
                      some r16
                    else
                      some false
                  else
                    some false
                else
                  some false : Option (Bool)).bind fun z3 =>
            some z3
        | .inr q => some q

end Go.Proofs.Ytiaoncjkfgebdaa
