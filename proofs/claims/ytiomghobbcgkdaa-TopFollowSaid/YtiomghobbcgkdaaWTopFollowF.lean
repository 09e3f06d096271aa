/- Pure functions, written by walkgen.py out of the Go functions of group WTopFollow. Their conditions: none. -/
import Derived.Test.YtiomghobbcgkdaaFeedF
import Derived.Test.YtiomghobbcgkdaaTurnF
import Derived.Test.YtiomghobbcgkdaaFileF
import Derived.Test.YtiomghobbcgkdaaEqsF
import Derived.Test.YtiomghobbcgkdaaMap
namespace Go.Proofs.Ytiomghobbcgkdaa
set_option linter.unusedVariables false

def annaltop_TopFollow (F : Nat) (p0 : (List ByteArray)) (p1 : Int) (p2 : Int) : Option (Bool) :=
  (realm_Make F (DBook.mk [] (DA16.mk 0 0 0 0 0 0 0 0 0 0 0 0 0 0 0 0) (DA16.mk 0 0 0 0 0 0 0 0 0 0 0 0 0 0 0 0)) 3 1).bind fun r1 =>
  (realm_Make F (DBook.mk [] (DA16.mk 0 0 0 0 0 0 0 0 0 0 0 0 0 0 0 0) (DA16.mk 0 0 0 0 0 0 0 0 0 0 0 0 0 0 0 0)) 3 2).bind fun r2 =>
  (
    (annaltop_begun F).bind fun r3 =>
      bif (!r3) then
        some true
      else
        bif (r1.2 != 0) then
          some true
        else
          some (r2.2 != 0) : Option (Bool)).bind fun z1 =>
  bif z1 then
    some false
  else
    (annalkeep_Within p1 1048577).bind fun r4 =>
    (lslice p0 0 (if (12 : Int) < (p0.length : Int) then 12 else (p0.length : Int))).bind fun s1 =>
    (iter (σ := (List DElem) × DA16 × DA16 × (List DElem) × Int) (ρ := ((List DElem) × DA16 × DA16 × (List DElem)) ⊕ Bool) (fun x => match x with
      | (x1, x2, x3, x4, x5) =>
        bif decide (x5 < (s1.length : Int)) then
            (idx s1 x5).bind fun e1 =>
            (file_Set F x4 3 r4 e1 (IntKind.i64.wrap (x5 + 1))).bind fun r5 =>
            bif (r5.2 != 0) then
              some (.inr (.inr ((decide ((320 : Int) < (e1.size : Int))) || (r5.2 == 8))))
            else
              (stream_Read F r5.1 3 x5 (IntKind.i64.wrap (x5 + 1))).bind fun r6 =>
              bif (r6.2 != 0) then
                some (.inr (.inr false))
              else
                (realm_Feed F (DBook.mk x1 x2 x3) r6.1).bind fun r7 =>
                bif (r7.2 != 0) then
                  some (.inr (.inr false))
                else
                  some (.inl (r7.1.run, r7.1.roles, r7.1.fed, r5.1, IntKind.i64.wrap (x5 + 1)))
          else
            some (.inr (.inl (x1, x2, x3, x4)))) F (r2.1.run, r2.1.roles, r2.1.fed, r1.1.run, 0)).bind fun z => match z with
      | .inl (z2, z3, z4, z5) =>
        (annalkeep_Within p2 (IntKind.i64.wrap ((s1.length : Int) + 1))).bind fun r8 =>
        (file_Get F z2 3 r4 r8).bind fun r9 =>
        (
          bif decide ((0 : Int) < r8) then
              (idx s1 (IntKind.i64.wrap (r8 - 1))).bind fun e2 =>
              some e2
            else
              some (ByteArray.mk #[]) : Option (ByteArray)).bind fun z6 =>
        (
          bif (r9.2 == 0) then
              bif (seq r9.1 z6) then
                bif (z4.x3 == (s1.length : Int)) then
                  (slices_Equal_Elem F z5 z2).bind fun r10 =>
                  some r10
                else
                  some false
              else
                some false
            else
              some false : Option (Bool)).bind fun z7 =>
        some z7
      | .inr q => some q

end Go.Proofs.Ytiomghobbcgkdaa
