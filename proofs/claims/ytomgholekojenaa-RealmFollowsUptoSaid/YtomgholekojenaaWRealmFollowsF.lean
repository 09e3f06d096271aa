/- Pure functions, written by walkgen.py out of the Go functions of group WRealmFollows. Their conditions: none. -/
import Derived.Test.YtomgholekojenaaFeedF
import Derived.Test.YtomgholekojenaaTurnF
import Derived.Test.YtomgholekojenaaEqsF
import Derived.Test.YtomgholekojenaaMap
namespace Go.Proofs.Ytomgholekojenaa
set_option linter.unusedVariables false

def annalkeep_RealmFollows (F : Nat) (p0 : (List DKey)) (p1 : (List ByteArray)) (p2 : (List Int)) (p3 : DKey) (p4 : ByteArray) : Option (Bool) :=
  (annalkeep_book).bind fun r1 =>
  (annalkeep_book).bind fun r2 =>
  (realm_Make F (DBook.mk r1.run (DA16.mk r1.roles.x0 0 r1.roles.x2 r1.roles.x3 r1.roles.x4 r1.roles.x5 r1.roles.x6 r1.roles.x7 r1.roles.x8 r1.roles.x9 r1.roles.x10 r1.roles.x11 r1.roles.x12 r1.roles.x13 r1.roles.x14 r1.roles.x15) r1.fed) 1 1).bind fun r3 =>
  bif ((r3.2 != 0) || ((r3.1.roles.x1 != 1) || (r3.1.roles.x0 != 1))) then
    some false
  else
    (iter (σ := (List DElem) × DA16 × DA16 × (List DElem) × DA16 × DA16 × Int × Int × Int) (ρ := ((List DElem) × DA16 × DA16 × Int) ⊕ Bool) (fun x => match x with
      | (x1, x2, x3, x4, x5, x6, x7, x8, x9) =>
        bif decide (x9 < (p0.length : Int)) then
            (
              (idx p0 x9).bind fun e1 =>
                (
                  bif decide (x9 < (p2.length : Int)) then
                      (idx p2 x9).bind fun e2 =>
                      (annalkeep_Within e2 3).bind fun r4 =>
                      some (IntKind.i64.wrap (x7 + r4))
                    else
                      some x7 : Option (Int)).bind fun z13 =>
                (
                  bif decide (x9 < (p1.length : Int)) then
                      (idx p1 x9).bind fun e3 =>
                      some e3
                    else
                      some (ByteArray.mk #[]) : Option (ByteArray)).bind fun z14 =>
                (realm_Put F (DBook.mk x4 x5 x6) (DKey.mk 1 e1.obj e1.off) z14 z13).bind fun r5 =>
                (
                  bif (((x9 : Int).tmod 4) == 3) then
                      (realm_Cut F (DBook.mk x4 x5 x6) (DKey.mk 1 e1.obj e1.off) z13).bind fun r6 =>
                      some (r6.1.run, r6.1.roles, r6.1.fed, r6.2)
                    else
                      some (r5.1.run, r5.1.roles, r5.1.fed, r5.2) : Option ((List DElem) × DA16 × DA16 × Int)).bind fun z => match z with
                  | (z15, z16, z17, z18) =>
                    (
                      bif (z18 == 0) then
                          some (z15, z16, z17)
                        else
                          some (x4, x5, x6) : Option ((List DElem) × DA16 × DA16)).bind fun z => match z with
                      | (z19, z20, z21) =>
                        bif decide ((0 : Int) < ((x9 : Int).tmod 3)) then
                          some (.inl (x1, x2, x3, z19, z20, z21, z13, x8))
                        else
                          (stream_Read F z19 1 x8 z13).bind fun r7 =>
                          bif (r7.2 != 0) then
                            some (.inr (.inr (.inr false)))
                          else
                            (realm_Feed F (DBook.mk x1 x2 x3) r7.1).bind fun r8 =>
                            bif (r8.2 != 0) then
                              some (.inr (.inr (.inr false)))
                            else
                              (stream_Upto F z19 1 z13).bind fun r9 =>
                              (
                                bif (r9.2 != 0) then
                                    some true
                                  else
                                    (slices_Equal_Elem F r9.1 r8.1.run).bind fun r10 =>
                                    bif (!r10) then
                                      some true
                                    else
                                      some (r8.1.fed.x1 != z13) : Option (Bool)).bind fun z22 =>
                              bif z22 then
                                some (.inr (.inr (.inr false)))
                              else
                                some (.inl (r8.1.run, r8.1.roles, r8.1.fed, z19, z20, z21, IntKind.i64.wrap (z13 + 1), z13)) : Option (((List DElem) × DA16 × DA16 × (List DElem) × DA16 × DA16 × Int × Int) ⊕ (((List DElem) × DA16 × DA16 × (List DElem) × DA16 × DA16 × Int × Int × Int) ⊕ (((List DElem) × DA16 × DA16 × Int) ⊕ Bool)))).bind fun z => match z with
              | .inl (z5, z6, z7, z8, z9, z10, z11, z12) =>
                some (.inl (z5, z6, z7, z8, z9, z10, z11, z12, IntKind.i64.wrap (x9 + 1)))
              | .inr q => some q
          else
            some (.inr (.inl (x1, x2, x3, x7)))) F (r2.run, (DA16.mk 0 r2.roles.x1 r2.roles.x2 r2.roles.x3 r2.roles.x4 r2.roles.x5 r2.roles.x6 r2.roles.x7 r2.roles.x8 r2.roles.x9 r2.roles.x10 r2.roles.x11 r2.roles.x12 r2.roles.x13 r2.roles.x14 r2.roles.x15), r2.fed, r3.1.run, r3.1.roles, r3.1.fed, 1, 0, 0)).bind fun z => match z with
      | .inl (z1, z2, z3, z4) =>
        (realm_Up F (DBook.mk z1 z2 z3) 1).bind fun r11 =>
        (
          bif (r11.2 != 0) then
              some true
            else
              bif (r11.1.roles.x1 != 1) then
                some true
              else
                (slices_Equal_Elem F r11.1.run z1).bind fun r12 =>
                some (!r12) : Option (Bool)).bind fun z23 =>
        bif z23 then
          some false
        else
          (realm_Put F r11.1 (DKey.mk 1 p3.obj p3.off) p4 z4).bind fun r13 =>
          (key_Check (DKey.mk 1 p3.obj p3.off)).bind fun r14 =>
          bif (r14 != 0) then
            some (r13.2 == r14)
          else
            (realm_Down F r11.1 1).bind fun r15 =>
            (run_Last F r11.1.run).bind fun r16 =>
            (
              bif (r13.2 == 0) then
                  bif (r15.2 == 0) then
                    bif (r16.2 == 0) then
                      bif (r15.1.fed.x1 == r16.1) then
                        (slices_Equal_Elem F r15.1.run z1).bind fun r19 =>
                        some r19
                      else
                        some false
                    else
                      some false
                  else
                    some false
                else
                  bif decide ((40 : Int) < (p4.size : Int)) then
                    bif (r15.2 == 0) then
                      bif (r16.2 == 0) then
                        bif (r15.1.fed.x1 == r16.1) then
                          (slices_Equal_Elem F r15.1.run z1).bind fun r18 =>
                          some r18
                        else
                          some false
                      else
                        some false
                    else
                      some false
                  else
                    bif (r13.2 == 8) then
                      bif (r15.2 == 0) then
                        bif (r16.2 == 0) then
                          bif (r15.1.fed.x1 == r16.1) then
                            (slices_Equal_Elem F r15.1.run z1).bind fun r17 =>
                            some r17
                          else
                            some false
                        else
                          some false
                      else
                        some false
                    else
                      some false : Option (Bool)).bind fun z24 =>
            some z24
      | .inr q => some q

end Go.Proofs.Ytomgholekojenaa
