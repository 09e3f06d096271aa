/- Pure functions, written by walkgen.py out of the Go functions of group LawA. Their conditions: none. -/
import Derived.Test.YtilpdlggabpbjaaDiskF
import Derived.Test.YtilpdlggabpbjaaOps
namespace Go.Proofs.Ytilpdlggabpbjaa
set_option linter.unusedVariables false

def annalkeep_DiskApart (p0 : DDisk) (p1 : Int) (p2 : Int) (p3 : ByteArray) (p4 : ByteArray) : Option (Bool) :=
  (disk_Put (DDisk.mk [(ByteArray.mk #[97]), (ByteArray.mk #[98])] []) 1 (ByteArray.mk #[99])).bind fun r1 =>
  (disk_Read r1.1 0).bind fun r2 =>
  bif ((r1.2 != 0) || ((r2.2 != 0) || (!(seq r2.1 (ByteArray.mk #[97]))))) then
    some false
  else
    (disk_Put p0 p1 p3).bind fun r3 =>
    bif (r3.2 != 0) then
      (annalref_SameDisk r3.1 (DDisk.mk [] [])).bind fun r4 =>
      some r4
    else
      (disk_Put r3.1 p2 p4).bind fun r5 =>
      (disk_Put p0 p2 p4).bind fun r6 =>
      bif ((r5.2 != 0) || ((r6.2 != 0) || (p1 == p2))) then
        some true
      else
        (disk_Put r6.1 p1 p3).bind fun r7 =>
        bif (r7.2 != 0) then
          some false
        else
          (iter (σ := Int) (ρ := (Unit) ⊕ Bool) (fun x1 =>
              bif decide (x1 < (p0.pages.length : Int)) then
                  (disk_Read r5.1 x1).bind fun r8 =>
                  (disk_Read r7.1 x1).bind fun r9 =>
                  (disk_Read p0 x1).bind fun r10 =>
                  bif ((r8.2 != 0) || ((r9.2 != 0) || ((r10.2 != 0) || ((!(seq r8.1 r9.1)) || (bif (x1 != p1) then (bif (x1 != p2) then ((!(seq r8.1 r10.1)) || (bif (x1 == p1) then ((!(seq r8.1 p3)) || ((x1 == p2) && (!(seq r8.1 p4)))) else ((x1 == p2) && (!(seq r8.1 p4))))) else (bif (x1 == p1) then ((!(seq r8.1 p3)) || ((x1 == p2) && (!(seq r8.1 p4)))) else ((x1 == p2) && (!(seq r8.1 p4))))) else (bif (x1 == p1) then ((!(seq r8.1 p3)) || ((x1 == p2) && (!(seq r8.1 p4)))) else ((x1 == p2) && (!(seq r8.1 p4))))))))) then
                    some (.inr (.inr false))
                  else
                    some (.inl (IntKind.i64.wrap (x1 + 1)))
                else
                  some (.inr (.inl ()))) FUEL 0).bind fun z => match z with
            | .inl _ =>
              some true
            | .inr q => some q

def annalkeep_DiskTwice (p0 : DDisk) (p1 : Int) (p2 : ByteArray) : Option (Bool) :=
  (annalkeep_one (ByteArray.mk #[97])).bind fun r1 =>
  (disk_Put r1 0 (ByteArray.mk #[98])).bind fun r2 =>
  (disk_Crash r2.1 ([] : List Bool)).bind fun r3 =>
  (
    bif (r2.2 != 0) then
        some true
      else
        bif (r3.2 != 0) then
          some true
        else
          (annalkeep_one (ByteArray.mk #[97])).bind fun r4 =>
          (annalref_SameDisk r3.1 r4).bind fun r5 =>
          some (!r5) : Option (Bool)).bind fun z1 =>
  bif z1 then
    some false
  else
    (
      (disk_Put p0 p1 p2).bind fun r6 =>
        bif (r6.2 != 0) then
          some (p0.pages, p0.writes)
        else
          some (r6.1.pages, r6.1.writes) : Option ((List ByteArray) × (List DWrite))).bind fun z => match z with
      | (z2, z3) =>
        (disk_Check (DDisk.mk z2 z3)).bind fun r7 =>
        bif (r7 != 0) then
          some true
        else
          (makes 1 (z3.length : Int)).bind fun u7 =>
          (iter (σ := (List Bool) × Int) (ρ := (List Bool)) (fun x => match x with
            | (x1, x2) =>
              bif decide (x2 < ((List.replicate ((z3.length : Int).toNat) (false : Bool)).length : Int)) then
                  (idx x1 x2).bind fun e1 =>
                  some (.inl ((x1.set x2.toNat true), IntKind.i64.wrap (x2 + 1)))
                else
                  some (.inr x1)) FUEL ((List.replicate ((z3.length : Int).toNat) (false : Bool)), 0)).bind fun z4 =>
          (disk_Sync (DDisk.mk z2 z3)).bind fun r9 =>
          (disk_Sync r9.1).bind fun r10 =>
          (disk_Crash (DDisk.mk z2 z3) z4).bind fun r11 =>
          (disk_Crash (DDisk.mk z2 z3) ([] : List Bool)).bind fun r12 =>
          (
            bif (r9.2 == 0) then
                bif (r10.2 == 0) then
                  bif (r11.2 == 0) then
                    bif (r12.2 == 0) then
                      (annalref_SameDisk r9.1 r10.1).bind fun r13 =>
                      bif r13 then
                        (annalref_SameDisk r9.1 r11.1).bind fun r14 =>
                        bif r14 then
                          (slices_Equal_string r12.1.pages z2).bind fun r15 =>
                          some r15
                        else
                          some false
                      else
                        some false
                    else
                      some false
                  else
                    some false
                else
                  some false
              else
                some false : Option (Bool)).bind fun z5 =>
          some z5

def annalkeep_DiskPages (p0 : DDisk) (p1 : (List Bool)) (p2 : Int) : Option (Bool) :=
  (annalkeep_one (ByteArray.mk #[97])).bind fun r1 =>
  (disk_Put r1 0 (ByteArray.mk #[98])).bind fun r2 =>
  (disk_Read r2.1 0).bind fun r3 =>
  bif ((r2.2 != 0) || ((r3.2 != 0) || (!(seq r3.1 (ByteArray.mk #[98]))))) then
    some false
  else
    (
      (disk_Check p0).bind fun r4 =>
        bif (r4 != 0) then
          some true
        else
          some ((p0.pages.length : Int) == 0) : Option (Bool)).bind fun z1 =>
    bif z1 then
      some true
    else
      (annalkeep_Within p2 (p0.pages.length : Int)).bind fun r5 =>
      (disk_Read p0 r5).bind fun r6 =>
      (disk_Sync p0).bind fun r7 =>
      (disk_Crash p0 p1).bind fun r8 =>
      bif ((r6.2 != 0) || ((r7.2 != 0) || (r8.2 != 0))) then
        some false
      else
        (disk_Read r7.1 r5).bind fun r9 =>
        (disk_Read r8.1 r5).bind fun r10 =>
        bif ((r9.2 != 0) || ((r10.2 != 0) || ((!(seq r9.1 r6.1)) || ((decide ((0 : Int) < (IntKind.i64.wrap ((r7.1.writes.length : Int) + (r8.1.writes.length : Int))))) || (((r7.1.pages.length : Int) != (p0.pages.length : Int)) || ((r8.1.pages.length : Int) != (p0.pages.length : Int))))))) then
          some false
        else
          (idx p0.pages r5).bind fun e1 =>
          (iter (σ := Bool × Bool × Int) (ρ := Bool × Bool) (fun x => match x with
            | (x1, x2, x3) =>
              bif decide (x3 < (p0.writes.length : Int)) then
                  (
                    (idx p0.writes x3).bind fun e2 =>
                      bif (e2.page == r5) then
                        bif x1 then
                          some (e2.page, e2.text, true, true)
                        else
                          bif (seq r10.1 e2.text) then
                            bif decide (x3 < (p1.length : Int)) then
                              (idx p1 x3).bind fun e3 =>
                              some (e2.page, e2.text, e3, true)
                            else
                              some (e2.page, e2.text, false, true)
                          else
                            some (e2.page, e2.text, false, true)
                      else
                        some (e2.page, e2.text, x1, x2) : Option (Int × ByteArray × Bool × Bool)).bind fun z => match z with
                    | (z4, z5, z6, z7) =>
                      some (.inl (z6, z7, IntKind.i64.wrap (x3 + 1)))
                else
                  some (.inr (x1, x2))) FUEL ((seq r10.1 e1), false, 0)).bind fun z => match z with
            | (z2, z3) =>
              (
                bif z2 then
                    bif z3 then
                      some true
                    else
                      (idx p0.pages r5).bind fun e4 =>
                      some (seq r9.1 e4)
                  else
                    some false : Option (Bool)).bind fun z8 =>
              some z8

end Go.Proofs.Ytilpdlggabpbjaa
