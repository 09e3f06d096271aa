/- Pure functions, written by walkgen.py out of the Go functions of group WGrowSets. Their conditions: none. -/
import Derived.Test.YtcmkdoahkncakaaGrowSFJ
import Derived.Test.YtcmkdoahkncakaaBuildFJ
import Derived.Test.YtcmkdoahkncakaaTreeFJ
import Derived.Test.YtcmkdoahkncakaaEqsFJ
import Derived.Test.YtcmkdoahkncakaaMapJ
namespace Go.Proofs.Ytcmkdoahkncakaa
set_option linter.unusedVariables false

def annalkeep_GrowSets (F : Nat) (p0 : DTree) (p1 : DElem) (p2 : Int) : Option (Bool) :=
  (annalkeep_at1 1 (ByteArray.mk #[97])).bind fun r1 =>
  (annalkeep_of F [r1]).bind fun r2 =>
  (annalkeep_at1 1 (ByteArray.mk #[98])).bind fun r3 =>
  (grow_Set F r2 r3).bind fun r4 =>
  (tree_All F r4.1).bind fun r5 =>
  (
    bif (r4.2 != 0) then
        some true
      else
        bif (r5.2 != 0) then
          some true
        else
          (annalkeep_at1 1 (ByteArray.mk #[98])).bind fun r6 =>
          (slices_Equal_Elem F r5.1 [r6]).bind fun r7 =>
          some (!r7) : Option (Bool)).bind fun z1 =>
  bif z1 then
    some false
  else
    (tree_All F p0).bind fun r8 =>
    bif ((r8.2 != 0) || ((r8.1.length : Int) == 0)) then
      some true
    else
      (annalkeep_Within p2 (r8.1.length : Int)).bind fun r9 =>
      (idx r8.1 r9).bind fun e1 =>
      (grow_Set F p0 (DElem.mk e1.key e1.made p1.gone p1.val)).bind fun r10 =>
      bif (r10.2 != 0) then
        (elem_Check (DElem.mk e1.key e1.made p1.gone p1.val)).bind fun r11 =>
        some (r10.2 == r11)
      else
        (grow_Set F r10.1 e1).bind fun r12 =>
        (tree_All F r10.1).bind fun r13 =>
        (tree_All F r12.1).bind fun r14 =>
        (
          bif (r12.2 != 0) then
              some true
            else
              bif (r13.2 != 0) then
                some true
              else
                bif (r14.2 != 0) then
                  some true
                else
                  (slices_Equal_Elem F r14.1 r8.1).bind fun r15 =>
                  bif (!r15) then
                    some true
                  else
                    some ((r13.1.length : Int) != (r8.1.length : Int)) : Option (Bool)).bind fun z2 =>
        bif z2 then
          some false
        else
          (iter (σ := Int) (ρ := (Unit) ⊕ Bool) (fun x1 =>
              bif decide (x1 < (r13.1.length : Int)) then
                  (
                    (idx r8.1 x1).bind fun e2 =>
                      bif (!(e2 == e1)) then
                        (idx r13.1 x1).bind fun e5 =>
                        (idx r8.1 x1).bind fun e6 =>
                        bif (!(e5 == e6)) then
                          some true
                        else
                          (idx r8.1 x1).bind fun e7 =>
                          bif (e7 == e1) then
                            (idx r13.1 x1).bind fun e8 =>
                            some (!(e8 == (DElem.mk e1.key e1.made p1.gone p1.val)))
                          else
                            some false
                      else
                        (idx r8.1 x1).bind fun e3 =>
                        bif (e3 == e1) then
                          (idx r13.1 x1).bind fun e4 =>
                          some (!(e4 == (DElem.mk e1.key e1.made p1.gone p1.val)))
                        else
                          some false : Option (Bool)).bind fun z3 =>
                  bif z3 then
                    some (.inr (.inr false))
                  else
                    some (.inl (IntKind.i64.wrap (x1 + 1)))
                else
                  some (.inr (.inl ()))) F 0).bind fun z => match z with
            | .inl _ =>
              some true
            | .inr q => some q

end Go.Proofs.Ytcmkdoahkncakaa
