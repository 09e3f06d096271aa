/- Pure functions, written by walkgen.py out of the Go functions of group Turn. Their conditions: none. -/
import Derived.Test.YtfbjmeehmanjnaaRealmFJ
import Derived.Test.YtfbjmeehmanjnaaMapJ
namespace Go.Proofs.Ytfbjmeehmanjnaa
set_option linter.unusedVariables false
def realm_Make (F : Nat) (p0 : DBook) (p1 : Int) (p2 : Int) : Option (DBook × Int) :=
 (realm_look F p0 p1).bind fun r1 =>
 bif (r1 != 0) then
  some ((DBook.mk [] (DA16.mk 0 0 0 0 0 0 0 0 0 0 0 0 0 0 0 0) (DA16.mk 0 0 0 0 0 0 0 0 0 0 0 0 0 0 0 0)), r1)
 else
  bif ((p2 != 1) && (p2 != 2)) then
   some ((DBook.mk [] (DA16.mk 0 0 0 0 0 0 0 0 0 0 0 0 0 0 0 0) (DA16.mk 0 0 0 0 0 0 0 0 0 0 0 0 0 0 0 0)), 1)
  else
   (idx p0.roles.list p1).bind fun e1 =>
   bif (e1 != 0) then
    some ((DBook.mk [] (DA16.mk 0 0 0 0 0 0 0 0 0 0 0 0 0 0 0 0) (DA16.mk 0 0 0 0 0 0 0 0 0 0 0 0 0 0 0 0)), 5)
   else
    (realm_copied p0).bind fun r5 =>
    (idx r5.roles.list p1).bind fun e2 =>
    some ((DBook.mk r5.run (DA16.set r5.roles p1.toNat p2) r5.fed), 0)
def realm_Up (F : Nat) (p0 : DBook) (p1 : Int) : Option (DBook × Int) :=
 (realm_look F p0 p1).bind fun r1 =>
 bif (r1 != 0) then
  some ((DBook.mk [] (DA16.mk 0 0 0 0 0 0 0 0 0 0 0 0 0 0 0 0) (DA16.mk 0 0 0 0 0 0 0 0 0 0 0 0 0 0 0 0)), r1)
 else
  (idx p0.roles.list p1).bind fun e1 =>
  bif (e1 != 2) then
   some ((DBook.mk [] (DA16.mk 0 0 0 0 0 0 0 0 0 0 0 0 0 0 0 0) (DA16.mk 0 0 0 0 0 0 0 0 0 0 0 0 0 0 0 0)), 10)
  else
   (realm_copied p0).bind fun r4 =>
   (idx r4.roles.list p1).bind fun e2 =>
   (idx r4.fed.list p1).bind fun e3 =>
   some ((DBook.mk r4.run (DA16.set r4.roles p1.toNat (1 : Int)) (DA16.set r4.fed p1.toNat (0 : Int))), 0)
def realm_Down (F : Nat) (p0 : DBook) (p1 : Int) : Option (DBook × Int) :=
 (realm_look F p0 p1).bind fun r1 =>
 bif (r1 != 0) then
  some ((DBook.mk [] (DA16.mk 0 0 0 0 0 0 0 0 0 0 0 0 0 0 0 0) (DA16.mk 0 0 0 0 0 0 0 0 0 0 0 0 0 0 0 0)), r1)
 else
  (idx p0.roles.list p1).bind fun e1 =>
  bif (e1 != 1) then
   some ((DBook.mk [] (DA16.mk 0 0 0 0 0 0 0 0 0 0 0 0 0 0 0 0) (DA16.mk 0 0 0 0 0 0 0 0 0 0 0 0 0 0 0 0)), 10)
  else
   (realm_copied p0).bind fun r4 =>
   (
    (iter (σ := Int) (ρ := Int) (fun x1 =>
     (
      bif decide (x1 < (p0.run.length : Int)) then
       (idx p0.run x1).bind fun e2 =>
       some (decide (e2.key.pfs < p1))
       else
        some false : Option (Bool)).bind fun z5 =>
      bif z5 then
       some (.inl (IntKind.i64.wrap (x1 + 1)))
      else
       some (.inr x1)) F 0).bind fun z4 =>
     (iter (σ := Int) (ρ := Int) (fun x2 =>
      (
       bif decide (x2 < (p0.run.length : Int)) then
        (idx p0.run x2).bind fun e3 =>
        some (e3.key.pfs == p1)
        else
         some false : Option (Bool)).bind fun z7 =>
       bif z7 then
        some (.inl (IntKind.i64.wrap (x2 + 1)))
       else
        some (.inr x2)) F z4).bind fun z6 =>
     (lslice p0.run 0 z4).bind fun s1 =>
     (lslice p0.run z4 z6).bind fun s2 =>
     (lslice p0.run z6 (p0.run.length : Int)).bind fun s3 =>
     some (s1, s2, s3) : Option ((List DElem) × (List DElem) × (List DElem))).bind fun z => match z with
    | (z1, z2, z3) =>
     (run_Last F z2).bind fun r6 =>
     (idx r4.roles.list p1).bind fun e4 =>
     (idx r4.fed.list p1).bind fun e5 =>
     some ((DBook.mk r4.run (DA16.set r4.roles p1.toNat (2 : Int)) (DA16.set r4.fed p1.toNat r6.1)), 0)
end Go.Proofs.Ytfbjmeehmanjnaa
