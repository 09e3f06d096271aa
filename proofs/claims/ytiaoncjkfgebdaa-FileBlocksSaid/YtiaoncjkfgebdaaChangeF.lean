/- Pure functions, written by walkgen.py out of the Go functions of group Change. Their conditions: none. -/
import Derived.Test.YtiaoncjkfgebdaaRunF
import Derived.Test.YtiaoncjkfgebdaaMap
namespace Go.Proofs.Ytiaoncjkfgebdaa
set_option linter.unusedVariables false

def change_Check (F : Nat) (p0 : (List DChange)) : Option (Int) :=
  bif decide ((400 : Int) < (p0.length : Int)) then
    some 2
  else
    (iter (σ := Int) (ρ := (Unit) ⊕ Int) (fun x1 =>
        bif decide (x1 < (p0.length : Int)) then
            (idx p0 x1).bind fun e1 =>
            (key_Check e1.key).bind fun r1 =>
            bif (r1 != 0) then
              some (.inr (.inr r1))
            else
              bif ((decide ((40 : Int) < (e1.was.size : Int))) || (decide ((40 : Int) < (e1.is_.size : Int)))) then
                some (.inr (.inr 2))
              else
                bif (bif (!e1.had) then ((!(seq e1.was (ByteArray.mk #[]))) || (bif (!e1.has) then ((!(seq e1.is_ (ByteArray.mk #[]))) || ((e1.had == e1.has) && (seq e1.was e1.is_))) else ((e1.had == e1.has) && (seq e1.was e1.is_)))) else (bif (!e1.has) then ((!(seq e1.is_ (ByteArray.mk #[]))) || ((e1.had == e1.has) && (seq e1.was e1.is_))) else ((e1.had == e1.has) && (seq e1.was e1.is_)))) then
                  some (.inr (.inr 3))
                else
                  (
                    bif decide ((0 : Int) < x1) then
                        (idx p0 (IntKind.i64.wrap (x1 - 1))).bind fun e2 =>
                        (key_Cmp e2.key e1.key).bind fun r2 =>
                        some (decide ((0 : Int) ≤ r2))
                      else
                        some false : Option (Bool)).bind fun z1 =>
                  bif z1 then
                    some (.inr (.inr 3))
                  else
                    some (.inl (IntKind.i64.wrap (x1 + 1)))
          else
            some (.inr (.inl ()))) F 0).bind fun z => match z with
      | .inl _ =>
        some 0
      | .inr q => some q

def change_differs (p0 : DChange) : Option (Bool) :=
  some ((!(p0.had == p0.has)) || (!(seq p0.was p0.is_)))

def change_Between (F : Nat) (p0 : (List DElem)) (p1 : Int) (p2 : Int) : Option (((List DChange)) × Int) :=
  (run_Check F p0).bind fun r1 =>
  bif (r1 != 0) then
    some ([], r1)
  else
    (iter (σ := (List DChange) × Int) (ρ := (List DChange)) (fun x => match x with
      | (x1, x2) =>
        bif decide (x2 < (p0.length : Int)) then
            (idx p0 x2).bind fun e1 =>
            (iter (σ := Bool × Bool × ByteArray × ByteArray × Int) (ρ := Bool × Bool × ByteArray × ByteArray × Int) (fun x => match x with
              | (x3, x4, x5, x6, x7) =>
                (
                    bif decide (x7 < (p0.length : Int)) then
                        (idx p0 x7).bind fun e2 =>
                        some (e2.key == e1.key)
                      else
                        some false : Option (Bool)).bind fun z7 =>
                  bif z7 then
                    (
                      (
                          (idx p0 x7).bind fun e3 =>
                            (elem_Live e3 p1).bind fun r3 =>
                            bif r3 then
                              (idx p0 x7).bind fun e4 =>
                              some (true, e4.val)
                            else
                              some (x3, x5) : Option (Bool × ByteArray)).bind fun z => match z with
                          | (z12, z13) =>
                            (idx p0 x7).bind fun e5 =>
                            (elem_Live e5 p2).bind fun r4 =>
                            bif r4 then
                              (idx p0 x7).bind fun e6 =>
                              some (z12, true, z13, e6.val)
                            else
                              some (z12, x4, z13, x6) : Option (Bool × Bool × ByteArray × ByteArray)).bind fun z => match z with
                      | (z8, z9, z10, z11) =>
                        some (.inl (z8, z9, z10, z11, IntKind.i64.wrap (x7 + 1)))
                  else
                    some (.inr (x3, x4, x5, x6, x7))) F (false, false, (ByteArray.mk #[]), (ByteArray.mk #[]), x2)).bind fun z => match z with
              | (z2, z3, z4, z5, z6) =>
                (change_differs (DChange.mk e1.key z2 z3 z4 z5)).bind fun r5 =>
                bif r5 then
                  (grow 64 x1 [(DChange.mk e1.key z2 z3 z4 z5)]).bind fun _ =>
                  some (.inl ((x1 ++ [(DChange.mk e1.key z2 z3 z4 z5)]), z6))
                else
                  some (.inl (x1, z6))
          else
            some (.inr x1)) F ([], 0)).bind fun z1 =>
    some (z1, 0)

def change_Back (F : Nat) (p0 : (List DChange)) : Option (((List DChange)) × Int) :=
  (change_Check F p0).bind fun r1 =>
  bif (r1 != 0) then
    some ([], r1)
  else
    (iter (σ := (List DChange) × Int) (ρ := (List DChange)) (fun x => match x with
      | (x1, x2) =>
        bif decide (x2 < (p0.length : Int)) then
            (idx p0 x2).bind fun e1 =>
            (grow 64 x1 [(DChange.mk e1.key e1.has e1.had e1.is_ e1.was)]).bind fun _ =>
            some (.inl ((x1 ++ [(DChange.mk e1.key e1.has e1.had e1.is_ e1.was)]), IntKind.i64.wrap (x2 + 1)))
          else
            some (.inr x1)) F ([], 0)).bind fun z1 =>
    some (z1, 0)

def change_Then (F : Nat) (p0 : (List DChange)) (p1 : (List DChange)) : Option (((List DChange)) × Int) :=
  (change_Check F p0).bind fun r1 =>
  bif (r1 != 0) then
    some ([], r1)
  else
    (change_Check F p1).bind fun r2 =>
    bif (r2 != 0) then
      some ([], r2)
    else
      (iter (σ := (List DChange) × (List DChange) × (List DChange)) (ρ := ((List DChange)) ⊕ (((List DChange)) × Int)) (fun x => match x with
        | (x1, x2, x3) =>
          bif decide ((0 : Int) < (IntKind.i64.wrap ((x2.length : Int) + (x3.length : Int)))) then
              (
                bif ((x2.length : Int) == 0) then
                    some 1
                  else
                    bif ((x3.length : Int) == 0) then
                      some (-1)
                    else
                      (idx x2 0).bind fun e1 =>
                      (idx x3 0).bind fun e2 =>
                      (key_Cmp e1.key e2.key).bind fun r4 =>
                      some r4 : Option (Int)).bind fun z2 =>
              bif decide (z2 < 0) then
                (idx x2 0).bind fun e3 =>
                (grow 64 x1 [e3]).bind fun _ =>
                (lslice x2 1 (x2.length : Int)).bind fun s2 =>
                some (.inl ((x1 ++ [e3]), s2, x3))
              else
                bif decide ((0 : Int) < z2) then
                  (idx x3 0).bind fun e4 =>
                  (grow 64 x1 [e4]).bind fun _ =>
                  (lslice x3 1 (x3.length : Int)).bind fun s3 =>
                  some (.inl ((x1 ++ [e4]), x2, s3))
                else
                  (
                    (idx x2 0).bind fun e5 =>
                      (idx x3 0).bind fun e6 =>
                      bif (!(e5.has == e6.had)) then
                        some true
                      else
                        (idx x2 0).bind fun e7 =>
                        (idx x3 0).bind fun e8 =>
                        some (!(seq e7.is_ e8.was)) : Option (Bool)).bind fun z3 =>
                  bif z3 then
                    some (.inr (.inr ([], 1)))
                  else
                    (idx x2 0).bind fun e9 =>
                    (idx x2 0).bind fun e10 =>
                    (idx x2 0).bind fun e11 =>
                    (idx x3 0).bind fun e12 =>
                    (idx x3 0).bind fun e13 =>
                    (
                      (change_differs (DChange.mk e9.key e10.had e12.has e11.was e13.is_)).bind fun r5 =>
                        bif r5 then
                          (grow 64 x1 [(DChange.mk e9.key e10.had e12.has e11.was e13.is_)]).bind fun _ =>
                          some (x1 ++ [(DChange.mk e9.key e10.had e12.has e11.was e13.is_)])
                        else
                          some x1 : Option ((List DChange))).bind fun z4 =>
                    (lslice x2 1 (x2.length : Int)).bind fun s4 =>
                    (lslice x3 1 (x3.length : Int)).bind fun s5 =>
                    some (.inl (z4, s4, s5))
            else
              some (.inr (.inl x1))) F ([], p0, p1)).bind fun z => match z with
        | .inl z1 =>
          bif decide ((400 : Int) < (z1.length : Int)) then
            some ([], 2)
          else
            some (z1, 0)
        | .inr q => some q

def change_Do (F : Nat) (p0 : (List DElem)) (p1 : (List DChange)) (p2 : Int) : Option (((List DElem)) × Int) :=
  (run_Check F p0).bind fun r1 =>
  bif (r1 != 0) then
    some ([], r1)
  else
    (change_Check F p1).bind fun r2 =>
    bif (r2 != 0) then
      some ([], r2)
    else
      (run_Last F p0).bind fun r3 =>
      bif ((decide (p2 < 1)) || ((decide ((2147483647 : Int) < p2)) || (decide (p2 < r3.1)))) then
        some ([], 9)
      else
        (iter (σ := Int) (ρ := (Unit) ⊕ (((List DElem)) × Int)) (fun x1 =>
            bif decide (x1 < (p1.length : Int)) then
                (idx p1 x1).bind fun e1 =>
                (run_At F p0 e1.key 2147483647).bind fun r4 =>
                bif ((!((r4.2 == 0) == e1.had)) || (!(seq r4.1.val e1.was))) then
                  some (.inr (.inr ([], 1)))
                else
                  some (.inl (IntKind.i64.wrap (x1 + 1)))
              else
                some (.inr (.inl ()))) F 0).bind fun z => match z with
          | .inl _ =>
            (grow 56 ([] : List DElem) p0).bind fun _ =>
            (iter (σ := (List DElem) × Int) (ρ := ((List DElem)) ⊕ (((List DElem)) × Int)) (fun x => match x with
              | (x2, x3) =>
                bif decide (x3 < (p1.length : Int)) then
                    (idx p1 x3).bind fun e2 =>
                    (
                      bif e2.has then
                          (run_Put F x2 e2.key e2.is_ p2).bind fun r6 =>
                          some (r6.1, r6.2)
                        else
                          (run_Cut F x2 e2.key p2).bind fun r7 =>
                          some (r7.1, r7.2) : Option ((List DElem) × Int)).bind fun z => match z with
                      | (z2, z3) =>
                        bif (z3 != 0) then
                          some (.inr (.inr ([], z3)))
                        else
                          some (.inl (z2, IntKind.i64.wrap (x3 + 1)))
                  else
                    some (.inr (.inl x2))) F ((([] : List DElem) ++ p0), 0)).bind fun z => match z with
              | .inl z1 =>
                some (z1, 0)
              | .inr q => some q
          | .inr q => some q

end Go.Proofs.Ytiaoncjkfgebdaa
