/- Pure functions, written by walkgen.py out of the Go functions of group Feed. Their conditions: none. -/
import Derived.Test.YtdggcklddjndmaaRealmFJ
import Derived.Test.YtdggcklddjndmaaStreamFJ
import Derived.Test.YtdggcklddjndmaaMapJ
namespace Go.Proofs.Ytdggcklddjndmaa
set_option linter.unusedVariables false
def realm_Feed (F : Nat) (p0 : DBook) (p1 : ByteArray) : Option (DBook × Int) :=
 (realm_Check F p0).bind fun r1 =>
 bif (r1 != 0) then
  some ((DBook.mk [] (DA16.mk 0 0 0 0 0 0 0 0 0 0 0 0 0 0 0 0) (DA16.mk 0 0 0 0 0 0 0 0 0 0 0 0 0 0 0 0)), r1)
 else
  (stream_Parse F p1).bind fun r2 =>
  bif (r2.2 != 0) then
   some ((DBook.mk [] (DA16.mk 0 0 0 0 0 0 0 0 0 0 0 0 0 0 0 0) (DA16.mk 0 0 0 0 0 0 0 0 0 0 0 0 0 0 0 0)), r2.2)
  else
   (idx p0.roles.list r2.1.pfs).bind fun e1 =>
   bif (e1 != 2) then
    some ((DBook.mk [] (DA16.mk 0 0 0 0 0 0 0 0 0 0 0 0 0 0 0 0) (DA16.mk 0 0 0 0 0 0 0 0 0 0 0 0 0 0 0 0)), 10)
   else
    (idx p0.fed.list r2.1.pfs).bind fun e2 =>
    bif (r2.1.from_ != e2) then
     some ((DBook.mk [] (DA16.mk 0 0 0 0 0 0 0 0 0 0 0 0 0 0 0 0) (DA16.mk 0 0 0 0 0 0 0 0 0 0 0 0 0 0 0 0)), 9)
    else
     (stream_Feed F p0.run p1).bind fun r3 =>
     bif (r3.2 != 0) then
      some ((DBook.mk [] (DA16.mk 0 0 0 0 0 0 0 0 0 0 0 0 0 0 0 0) (DA16.mk 0 0 0 0 0 0 0 0 0 0 0 0 0 0 0 0)), r3.2)
     else
      (idx p0.fed.list r2.1.pfs).bind fun e3 =>
      some ((DBook.mk r3.1 p0.roles (DA16.set p0.fed r2.1.pfs.toNat r2.1.to)), 0)
def annalref_Realm (F : Nat) (p0 : (List DElem)) (p1 : Int) : Option (((List DElem)) × ((List DElem))) :=
 (iter (σ := (List DElem) × (List DElem) × Int) (ρ := (List DElem) × (List DElem)) (fun x => match x with
  | (x1, x2, x3) =>
   bif decide (x3 < (p0.length : Int)) then
    (
     (idx p0 x3).bind fun e1 =>
      bif (e1.key.pfs == p1) then
       (grow 56 x2 [e1]).bind fun _ =>
       some (x1, (x2 ++ [e1]))
      else
       (grow 56 x1 [e1]).bind fun _ =>
       some ((x1 ++ [e1]), x2) : Option ((List DElem) × (List DElem))).bind fun z => match z with
     | (z3, z4) =>
      some (.inl (z3, z4, IntKind.i64.wrap (x3 + 1)))
    else
     some (.inr (x1, x2))) F ([], [], 0)).bind fun z => match z with
  | (z1, z2) =>
   some (z2, z1)
end Go.Proofs.Ytdggcklddjndmaa
