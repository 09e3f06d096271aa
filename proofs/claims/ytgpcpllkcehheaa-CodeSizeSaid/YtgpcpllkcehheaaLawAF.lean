/- Pure functions, written by walkgen.py out of the Go functions of group LawA. Their conditions: none. -/
import Derived.Test.YtgpcpllkcehheaaKeyF
import Derived.Test.YtgpcpllkcehheaaOps
namespace Go.Proofs.Ytgpcpllkcehheaa
set_option linter.unusedVariables false

def annalkeep_KeyOrders (p0 : DSpot) (p1 : DSpot) (p2 : DSpot) : Option (Bool) :=
  (
    (key_Cmp (DKey.mk 1 0 0) (DKey.mk 0 9 9)).bind fun r1 =>
      bif (r1 != 1) then
        some true
      else
        (key_CmpSpot (DSpot.mk (DKey.mk 0 0 0) 1) (DSpot.mk (DKey.mk 0 0 0) 2)).bind fun r2 =>
        some (r2 != (-1)) : Option (Bool)).bind fun z1 =>
  bif z1 then
    some false
  else
    (key_CmpSpot p0 p1).bind fun r3 =>
    (key_CmpSpot p1 p0).bind fun r4 =>
    (key_CmpSpot p1 p2).bind fun r5 =>
    (key_CmpSpot p0 p2).bind fun r6 =>
    (key_Cmp p0.key p1.key).bind fun r7 =>
    some ((r3 == (IntKind.i64.wrap (0 - r4))) && (((r3 == 0) == (p0 == p1)) && (bif decide ((0 : Int) < r3) then (((r7 == 0) == (p0.key == p1.key)) && ((r7 == 0) || (r7 == r3))) else (bif decide ((0 : Int) < r5) then (((r7 == 0) == (p0.key == p1.key)) && ((r7 == 0) || (r7 == r3))) else ((decide (r6 ≤ 0)) && (((r7 == 0) == (p0.key == p1.key)) && ((r7 == 0) || (r7 == r3))))))))

def annalkeep_ElemTimes (p0 : DElem) (p1 : Int) : Option (Bool) :=
  (
    (elem_Live (DElem.mk (DKey.mk 0 0 0) 3 5 (ByteArray.mk #[])) 2).bind fun r1 =>
      bif r1 then
        some true
      else
        (elem_Live (DElem.mk (DKey.mk 0 0 0) 3 5 (ByteArray.mk #[])) 3).bind fun r2 =>
        bif (!r2) then
          some true
        else
          (elem_Live (DElem.mk (DKey.mk 0 0 0) 3 5 (ByteArray.mk #[])) 4).bind fun r3 =>
          bif (!r3) then
            some true
          else
            (elem_Live (DElem.mk (DKey.mk 0 0 0) 3 5 (ByteArray.mk #[])) 5).bind fun r4 =>
            bif r4 then
              some true
            else
              (elem_Last (DElem.mk (DKey.mk 0 0 0) 3 5 (ByteArray.mk #[]))).bind fun r5 =>
              some (r5 != 5) : Option (Bool)).bind fun z1 =>
  bif z1 then
    some false
  else
    (elem_Check p0).bind fun r6 =>
    bif (r6 != 0) then
      some true
    else
      (elem_Last p0).bind fun r7 =>
      (
        bif decide (r7 ≤ p1) then
            (elem_Live p0 p1).bind fun r8 =>
            some (!(r8 == (p0.gone == 0)))
          else
            some false : Option (Bool)).bind fun z2 =>
      bif z2 then
        some false
      else
        (
          (elem_Live p0 p0.made).bind fun r9 =>
            bif r9 then
              (elem_Live p0 (IntKind.i64.wrap (p0.made - 1))).bind fun r10 =>
              bif (!r10) then
                bif (p0.gone == 0) then
                  some true
                else
                  (elem_Live p0 (IntKind.i64.wrap (p0.gone - 1))).bind fun r11 =>
                  bif r11 then
                    (elem_Live p0 p0.gone).bind fun r12 =>
                    some (!r12)
                  else
                    some false
              else
                some false
            else
              some false : Option (Bool)).bind fun z3 =>
        some z3

end Go.Proofs.Ytgpcpllkcehheaa
