/- Pure functions, written by walkgen.py out of the Go functions of group Disk. Their conditions: none. -/
import Derived.Test.YtjhkfonoobmecaaEqsF
import Derived.Test.YtjhkfonoobmecaaMap
namespace Go.Proofs.Ytjhkfonoobmecaa
set_option linter.unusedVariables false

def disk_one (p0 : DDisk) (p1 : Int) (p2 : ByteArray) : Option (Int) :=
  bif ((decide (p1 < 0)) || (decide ((p0.pages.length : Int) ≤ p1))) then
    some 1
  else
    bif decide ((3500 : Int) < (p2.size : Int)) then
      some 2
    else
      some 0

def disk_Check (F : Nat) (p0 : DDisk) : Option (Int) :=
  bif ((decide ((201 : Int) < (p0.pages.length : Int))) || (decide ((400 : Int) < (p0.writes.length : Int)))) then
    some 2
  else
    (iter (σ := Int) (ρ := (Unit) ⊕ Int) (fun x1 =>
        bif decide (x1 < (p0.pages.length : Int)) then
            (idx p0.pages x1).bind fun e1 =>
            bif decide ((3500 : Int) < (e1.size : Int)) then
              some (.inr (.inr 2))
            else
              some (.inl (IntKind.i64.wrap (x1 + 1)))
          else
            some (.inr (.inl ()))) F 0).bind fun z => match z with
      | .inl _ =>
        (iter (σ := Int) (ρ := (Unit) ⊕ Int) (fun x2 =>
            bif decide (x2 < (p0.writes.length : Int)) then
                (idx p0.writes x2).bind fun e2 =>
                (disk_one p0 e2.page e2.text).bind fun r1 =>
                bif (r1 != 0) then
                  some (.inr (.inr r1))
                else
                  some (.inl (IntKind.i64.wrap (x2 + 1)))
              else
                some (.inr (.inl ()))) F 0).bind fun z => match z with
          | .inl _ =>
            some 0
          | .inr q => some q
      | .inr q => some q

def disk_Seen (F : Nat) (p0 : DDisk) (p1 : Int) : Option (ByteArray) :=
  (iter (σ := Int) (ρ := (Unit) ⊕ ByteArray) (fun x1 =>
      bif decide ((0 : Int) ≤ x1) then
          (idx p0.writes x1).bind fun e1 =>
          bif (e1.page == p1) then
            (idx p0.writes x1).bind fun e2 =>
            some (.inr (.inr e2.text))
          else
            some (.inl (IntKind.i64.wrap (x1 - 1)))
        else
          some (.inr (.inl ()))) F (IntKind.i64.wrap ((p0.writes.length : Int) - 1))).bind fun z => match z with
    | .inl _ =>
      (idx p0.pages p1).bind fun e3 =>
      some e3
    | .inr q => some q

def disk_Put (F : Nat) (p0 : DDisk) (p1 : Int) (p2 : ByteArray) : Option (DDisk × Int) :=
  (disk_Check F p0).bind fun r1 =>
  bif (r1 != 0) then
    some ((DDisk.mk [] []), r1)
  else
    (disk_one p0 p1 p2).bind fun r4 =>
    bif (r4 != 0) then
      some ((DDisk.mk [] []), r4)
    else
      bif ((p0.writes.length : Int) == 400) then
        some ((DDisk.mk [] []), 8)
      else
        (
          (grow 16 ([] : List ByteArray) p0.pages).bind fun _ =>
            (grow 24 ([] : List DWrite) p0.writes).bind fun _ =>
            some () : Option (Unit)).bind fun _ =>
        (grow 24 (([] : List DWrite) ++ p0.writes) [(DWrite.mk p1 p2)]).bind fun _ =>
        some ((DDisk.mk (([] : List ByteArray) ++ p0.pages) ((([] : List DWrite) ++ p0.writes) ++ [(DWrite.mk p1 p2)])), 0)

def disk_Sync (F : Nat) (p0 : DDisk) : Option (DDisk × Int) :=
  (disk_Check F p0).bind fun r1 =>
  bif (r1 != 0) then
    some ((DDisk.mk [] []), r1)
  else
    (
      (grow 16 ([] : List ByteArray) p0.pages).bind fun _ =>
        (iter (σ := (List ByteArray) × Int) (ρ := (List ByteArray)) (fun x => match x with
          | (x1, x2) =>
            bif decide (x2 < (p0.writes.length : Int)) then
                (idx p0.writes x2).bind fun e1 =>
                (idx x1 e1.page).bind fun e2 =>
                some (.inl ((x1.set e1.page.toNat e1.text), IntKind.i64.wrap (x2 + 1)))
              else
                some (.inr x1)) F ((([] : List ByteArray) ++ p0.pages), 0)).bind fun z2 =>
        some z2 : Option ((List ByteArray))).bind fun z1 =>
    some ((DDisk.mk z1 []), 0)

def disk_Crash (F : Nat) (p0 : DDisk) (p1 : (List Bool)) : Option (DDisk × Int) :=
  (disk_Check F p0).bind fun r1 =>
  bif (r1 != 0) then
    some ((DDisk.mk [] []), r1)
  else
    (
      (grow 16 ([] : List ByteArray) p0.pages).bind fun _ =>
        (iter (σ := (List ByteArray) × Int) (ρ := (List ByteArray)) (fun x => match x with
          | (x1, x2) =>
            bif decide (x2 < (p0.writes.length : Int)) then
                (
                  (idx p0.writes x2).bind fun e1 =>
                    (
                      (
                          bif decide (x2 < (p1.length : Int)) then
                              (idx p1 x2).bind fun e2 =>
                              some e2
                            else
                              some false : Option (Bool)).bind fun z5 =>
                        some z5 : Option (Bool)).bind fun z4 =>
                    bif z4 then
                      (idx x1 e1.page).bind fun e3 =>
                      some (x1.set e1.page.toNat e1.text)
                    else
                      some x1 : Option ((List ByteArray))).bind fun z3 =>
                some (.inl (z3, IntKind.i64.wrap (x2 + 1)))
              else
                some (.inr x1)) F ((([] : List ByteArray) ++ p0.pages), 0)).bind fun z2 =>
        some z2 : Option ((List ByteArray))).bind fun z1 =>
    some ((DDisk.mk z1 []), 0)

def annalref_SameDisk (F : Nat) (p0 : DDisk) (p1 : DDisk) : Option (Bool) :=
  (
    (slices_Equal_string F p0.pages p1.pages).bind fun r1 =>
      bif r1 then
        (slices_Equal_Write F p0.writes p1.writes).bind fun r2 =>
        some r2
      else
        some false : Option (Bool)).bind fun z1 =>
  some z1

end Go.Proofs.Ytjhkfonoobmecaa
