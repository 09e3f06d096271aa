/- Pure functions, written by walkgen.py out of the Go functions of group Realm. Their conditions: none. -/
import Derived.Test.YtfbjmeehmanjnaaRunFJ
import Derived.Test.YtfbjmeehmanjnaaEqsFJ
import Derived.Test.YtfbjmeehmanjnaaMapJ
namespace Go.Proofs.Ytfbjmeehmanjnaa
set_option linter.unusedVariables false
def annalkeep_book : Option (DBook) :=
 some (DBook.mk [] (DA16.mk 1 2 0 0 0 0 0 0 0 0 0 0 0 0 0 0) (DA16.mk 0 0 0 0 0 0 0 0 0 0 0 0 0 0 0 0))
def realm_Check (F : Nat) (p0 : DBook) : Option (Int) :=
 (run_Check F p0.run).bind fun r1 =>
 bif (r1 != 0) then
  some r1
 else
  (iter (σ := Int) (ρ := (Unit) ⊕ Int) (fun x1 =>
   bif decide (x1 < 16) then
    (idx p0.roles.list x1).bind fun e1 =>
    (
     bif decide (e1 < 0) then
      some true
      else
       bif decide ((2 : Int) < e1) then
        some true
       else
        (idx p0.fed.list x1).bind fun e2 =>
        bif decide (e2 < 0) then
         some true
        else
         (idx p0.fed.list x1).bind fun e3 =>
         bif decide ((2147483647 : Int) < e3) then
          some true
         else
          bif (e1 != 2) then
           (idx p0.fed.list x1).bind fun e4 =>
           some (decide ((0 : Int) < e4))
          else
           some false : Option (Bool)).bind fun z1 =>
    bif z1 then
     some (.inr (.inr 3))
    else
     some (.inl (IntKind.i64.wrap (x1 + 1)))
    else
     some (.inr (.inl ()))) F 0).bind fun z => match z with
   | .inl _ =>
    (iter (σ := Int) (ρ := (Unit) ⊕ Int) (fun x2 =>
     bif decide (x2 < (p0.run.length : Int)) then
      (idx p0.run x2).bind fun e5 =>
      (
       (idx p0.roles.list e5.key.pfs).bind fun e6 =>
        bif (e6 == 0) then
         some true
        else
         (idx p0.roles.list e5.key.pfs).bind fun e7 =>
         bif (e7 == 2) then
          (elem_Last e5).bind fun r2 =>
          (idx p0.fed.list e5.key.pfs).bind fun e8 =>
          some (decide (e8 < r2))
         else
          some false : Option (Bool)).bind fun z2 =>
      bif z2 then
       some (.inr (.inr 3))
      else
       some (.inl (IntKind.i64.wrap (x2 + 1)))
      else
       some (.inr (.inl ()))) F 0).bind fun z => match z with
     | .inl _ =>
      some 0
     | .inr q => some q
   | .inr q => some q
def realm_copied (p0 : DBook) : Option (DBook) :=
 (grow 56 ([] : List DElem) p0.run).bind fun _ =>
 some (DBook.mk (([] : List DElem) ++ p0.run) p0.roles p0.fed)
def realm_look (F : Nat) (p0 : DBook) (p1 : Int) : Option (Int) :=
 (realm_Check F p0).bind fun r1 =>
 bif (r1 != 0) then
  some r1
 else
  bif ((decide (p1 < 0)) || (decide ((15 : Int) < p1))) then
   some 1
  else
   some 0
def realm_with (F : Nat) (p0 : DBook) (p1 : Int) (p2 : (List DElem)) : Option (DBook × Int) :=
 (
  (iter (σ := Int) (ρ := Int) (fun x1 =>
   (
    bif decide (x1 < (p0.run.length : Int)) then
     (idx p0.run x1).bind fun e1 =>
     some (decide (e1.key.pfs < p1))
     else
      some false : Option (Bool)).bind fun z5 =>
    bif z5 then
     some (.inl (IntKind.i64.wrap (x1 + 1)))
    else
     some (.inr x1)) F 0).bind fun z4 =>
   (iter (σ := Int) (ρ := Int) (fun x2 =>
    (
     bif decide (x2 < (p0.run.length : Int)) then
      (idx p0.run x2).bind fun e2 =>
      some (e2.key.pfs == p1)
      else
       some false : Option (Bool)).bind fun z7 =>
     bif z7 then
      some (.inl (IntKind.i64.wrap (x2 + 1)))
     else
      some (.inr x2)) F z4).bind fun z6 =>
   (lslice p0.run 0 z4).bind fun s1 =>
   (lslice p0.run z4 z6).bind fun s2 =>
   (lslice p0.run z6 (p0.run.length : Int)).bind fun s3 =>
   some (s1, s2, s3) : Option ((List DElem) × (List DElem) × (List DElem))).bind fun z => match z with
  | (z1, z2, z3) =>
   bif decide ((400 : Int) < (IntKind.i64.wrap ((IntKind.i64.wrap ((z1.length : Int) + (p2.length : Int))) + (z3.length : Int)))) then
    some ((DBook.mk [] (DA16.mk 0 0 0 0 0 0 0 0 0 0 0 0 0 0 0 0) (DA16.mk 0 0 0 0 0 0 0 0 0 0 0 0 0 0 0 0)), 8)
   else
    (grow 56 ([] : List DElem) z1).bind fun _ =>
    (grow 56 (([] : List DElem) ++ z1) p2).bind fun _ =>
    (grow 56 ((([] : List DElem) ++ z1) ++ p2) z3).bind fun _ =>
    some ((DBook.mk (((([] : List DElem) ++ z1) ++ p2) ++ z3) p0.roles p0.fed), 0)
def realm_Put (F : Nat) (p0 : DBook) (p1 : DKey) (p2 : ByteArray) (p3 : Int) : Option (DBook × Int) :=
 (realm_look F p0 p1.pfs).bind fun r1 =>
 bif (r1 != 0) then
  some ((DBook.mk [] (DA16.mk 0 0 0 0 0 0 0 0 0 0 0 0 0 0 0 0) (DA16.mk 0 0 0 0 0 0 0 0 0 0 0 0 0 0 0 0)), r1)
 else
  (idx p0.roles.list p1.pfs).bind fun e1 =>
  bif (e1 != 1) then
   some ((DBook.mk [] (DA16.mk 0 0 0 0 0 0 0 0 0 0 0 0 0 0 0 0) (DA16.mk 0 0 0 0 0 0 0 0 0 0 0 0 0 0 0 0)), 10)
  else
   (
    (iter (σ := Int) (ρ := Int) (fun x1 =>
     (
      bif decide (x1 < (p0.run.length : Int)) then
       (idx p0.run x1).bind fun e2 =>
       some (decide (e2.key.pfs < p1.pfs))
       else
        some false : Option (Bool)).bind fun z5 =>
      bif z5 then
       some (.inl (IntKind.i64.wrap (x1 + 1)))
      else
       some (.inr x1)) F 0).bind fun z4 =>
     (iter (σ := Int) (ρ := Int) (fun x2 =>
      (
       bif decide (x2 < (p0.run.length : Int)) then
        (idx p0.run x2).bind fun e3 =>
        some (e3.key.pfs == p1.pfs)
        else
         some false : Option (Bool)).bind fun z7 =>
       bif z7 then
        some (.inl (IntKind.i64.wrap (x2 + 1)))
       else
        some (.inr x2)) F z4).bind fun z6 =>
     (lslice p0.run 0 z4).bind fun s1 =>
     (lslice p0.run z4 z6).bind fun s2 =>
     (lslice p0.run z6 (p0.run.length : Int)).bind fun s3 =>
     some (s1, s2, s3) : Option ((List DElem) × (List DElem) × (List DElem))).bind fun z => match z with
    | (z1, z2, z3) =>
     (run_Put F z2 p1 p2 p3).bind fun r4 =>
     bif (r4.2 != 0) then
      some ((DBook.mk [] (DA16.mk 0 0 0 0 0 0 0 0 0 0 0 0 0 0 0 0) (DA16.mk 0 0 0 0 0 0 0 0 0 0 0 0 0 0 0 0)), r4.2)
     else
      (realm_with F p0 p1.pfs r4.1).bind fun r6 =>
      some (r6.1, r6.2)
def realm_Cut (F : Nat) (p0 : DBook) (p1 : DKey) (p2 : Int) : Option (DBook × Int) :=
 (realm_look F p0 p1.pfs).bind fun r1 =>
 bif (r1 != 0) then
  some ((DBook.mk [] (DA16.mk 0 0 0 0 0 0 0 0 0 0 0 0 0 0 0 0) (DA16.mk 0 0 0 0 0 0 0 0 0 0 0 0 0 0 0 0)), r1)
 else
  (idx p0.roles.list p1.pfs).bind fun e1 =>
  bif (e1 != 1) then
   some ((DBook.mk [] (DA16.mk 0 0 0 0 0 0 0 0 0 0 0 0 0 0 0 0) (DA16.mk 0 0 0 0 0 0 0 0 0 0 0 0 0 0 0 0)), 10)
  else
   (
    (iter (σ := Int) (ρ := Int) (fun x1 =>
     (
      bif decide (x1 < (p0.run.length : Int)) then
       (idx p0.run x1).bind fun e2 =>
       some (decide (e2.key.pfs < p1.pfs))
       else
        some false : Option (Bool)).bind fun z5 =>
      bif z5 then
       some (.inl (IntKind.i64.wrap (x1 + 1)))
      else
       some (.inr x1)) F 0).bind fun z4 =>
     (iter (σ := Int) (ρ := Int) (fun x2 =>
      (
       bif decide (x2 < (p0.run.length : Int)) then
        (idx p0.run x2).bind fun e3 =>
        some (e3.key.pfs == p1.pfs)
        else
         some false : Option (Bool)).bind fun z7 =>
       bif z7 then
        some (.inl (IntKind.i64.wrap (x2 + 1)))
       else
        some (.inr x2)) F z4).bind fun z6 =>
     (lslice p0.run 0 z4).bind fun s1 =>
     (lslice p0.run z4 z6).bind fun s2 =>
     (lslice p0.run z6 (p0.run.length : Int)).bind fun s3 =>
     some (s1, s2, s3) : Option ((List DElem) × (List DElem) × (List DElem))).bind fun z => match z with
    | (z1, z2, z3) =>
     (run_Cut F z2 p1 p2).bind fun r4 =>
     bif (r4.2 != 0) then
      some ((DBook.mk [] (DA16.mk 0 0 0 0 0 0 0 0 0 0 0 0 0 0 0 0) (DA16.mk 0 0 0 0 0 0 0 0 0 0 0 0 0 0 0 0)), r4.2)
     else
      (realm_with F p0 p1.pfs r4.1).bind fun r6 =>
      some (r6.1, r6.2)
end Go.Proofs.Ytfbjmeehmanjnaa
