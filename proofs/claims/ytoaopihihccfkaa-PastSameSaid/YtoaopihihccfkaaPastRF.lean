/- Pure functions, written by walkgen.py out of the Go functions of group PastR. Their conditions: none. -/
import Derived.Test.YtoaopihihccfkaaPastCF
import Derived.Test.YtoaopihihccfkaaRange
import Derived.Test.YtoaopihihccfkaaMap
namespace Go.Proofs.Ytoaopihihccfkaa
set_option linter.unusedVariables false

def past_Range (F : Nat) (p0 : DTree) (p1 : DKey) (p2 : DKey) (p3 : Int) : Option (((List DElem)) × Int) :=
  (past_Check F p0).bind fun r1 =>
  bif (r1 != 0) then
    some ([], r1)
  else
    (key_Check p1).bind fun r2 =>
    bif (r2 != 0) then
      some ([], r2)
    else
      (key_Check p2).bind fun r3 =>
      bif (r3 != 0) then
        some ([], r3)
      else
        (
          (
              (fixD (σ := (List DElem) × Int) (ρ := (List DElem) × Nat) (fun rf2 x => match x with
                  | (x1, x2) =>
                    (idx p0.nodes x2).bind fun e1 =>
                      (iter (σ := (List DElem) × Int) (ρ := ((List DElem)) ⊕ ((List DElem) × Nat)) (fun x => match x with
                        | (x3, x4) =>
                          bif decide (x4 < (e1.elems.length : Int)) then
                              (idx e1.elems x4).bind fun e2 =>
                              (
                                (elem_Spot e2).bind fun r5 =>
                                  (key_CmpSpot r5 (DSpot.mk p1 0)).bind fun r6 =>
                                  bif decide ((0 : Int) ≤ r6) then
                                    (
                                      (key_Cmp e2.key p2).bind fun r7 =>
                                        bif decide ((0 : Int) < r7) then
                                          some (x3, (0 + 1))
                                        else
                                          (elem_Live e2 p3).bind fun r8 =>
                                          bif r8 then
                                            (grow 56 x3 [e2]).bind fun _ =>
                                            some ((x3 ++ [e2]), 0)
                                          else
                                            some (x3, 0) : Option ((List DElem) × Nat)).bind fun z => match z with
                                      | (z6, k4) =>
                                        natCase k4 (
                                          some (z6, 0))
                                          fun k5 =>
                                          some (z6, (k5 + 1))
                                  else
                                    some (x3, 0) : Option ((List DElem) × Nat)).bind fun z => match z with
                                | (z5, k3) =>
                                  natCase k3 (
                                    some (.inl (z5, IntKind.i64.wrap (x4 + 1))))
                                    fun k6 =>
                                    some (.inr (.inr (z5, (k6 + 1))))
                            else
                              some (.inr (.inl x3))) F (x1, 0)).bind fun z => match z with
                        | .inl z4 =>
                          bif (e1.kind == 1) then
                            some (z4, 0)
                          else
                            (node_Way F e1 (DSpot.mk p1 0)).bind fun r9 =>
                            (lslice e1.kids r9 (e1.kids.length : Int)).bind fun s2 =>
                            (iter (σ := (List DElem) × Int) (ρ := ((List DElem)) ⊕ ((List DElem) × Nat)) (fun x => match x with
                              | (x5, x6) =>
                                bif decide (x6 < (s2.length : Int)) then
                                    (idx s2 x6).bind fun e3 =>
                                    (
                                      (rf2 (x5, e3)).bind fun z => match z with
                                          | (z9, z10) =>
                                            natCase z10 (
                                              some (z9, 0))
                                              fun k8 =>
                                              some (z9, (k8 + 1)) : Option ((List DElem) × Nat)).bind fun z => match z with
                                      | (z8, k7) =>
                                        natCase k7 (
                                          some (.inl (z8, IntKind.i64.wrap (x6 + 1))))
                                          fun k9 =>
                                          some (.inr (.inr (z8, (k9 + 1))))
                                  else
                                    some (.inr (.inl x5))) F (z4, 0)).bind fun z => match z with
                              | .inl z7 =>
                                some (z7, 0)
                              | .inr q => some q
                        | .inr q => some q) F ([], p0.root)).bind fun z => match z with
                  | (z11, z12) =>
                    natCase z12 (
                      some (z11, 0))
                      fun k10 =>
                      some (z11, (k10 + 1)) : Option ((List DElem) × Nat)).bind fun z => match z with
              | (z2, k1) =>
                natCase k1 (
                  some z2)
                  fun k11 =>
                  some z2 : Option ((List DElem))).bind fun z1 =>
        some (z1, 0)

end Go.Proofs.Ytoaopihihccfkaa
