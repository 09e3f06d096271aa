/- Pure functions, written by walkgen.py out of the Go functions of group WRealmApart. Their conditions: none. -/
import Derived.Test.YtdggcklddjndmaaFeedFJ
import Derived.Test.YtdggcklddjndmaaRefFJ
import Derived.Test.YtdggcklddjndmaaEqsFJ
import Derived.Test.YtdggcklddjndmaaMapJ
namespace Go.Proofs.Ytdggcklddjndmaa
set_option linter.unusedVariables false
def annalkeep_RealmApart (F : Nat) (p0 : DBook) (p1 : DKey) (p2 : ByteArray) (p3 : Int) (p4 : ByteArray) : Option (Bool) :=
 (annalkeep_book).bind fun r1 =>
 (realm_Put F r1 (DKey.mk 0 0 0) (ByteArray.mk #[97]) 1).bind fun r2 =>
 bif ((r2.2 != 0) || ((r2.1.run.length : Int) != 1)) then
  some false
 else
  (annalkeep_book).bind fun r3 =>
  (realm_Put F r3 (DKey.mk 1 0 0) (ByteArray.mk #[97]) 1).bind fun r4 =>
  bif (r4.2 != 10) then
   some false
  else
   (realm_Put F p0 p1 p2 p3).bind fun r5 =>
   (
    bif (r5.2 == 0) then
     (
      (realm_Check F r5.1).bind fun r6 =>
       bif (r6 != 0) then
        some false
       else
        (iter (σ := Int) (ρ := (Unit) ⊕ Bool) (fun x1 =>
         bif decide (x1 < 16) then
          (annalref_Realm F p0.run x1).bind fun r7 =>
          (annalref_Realm F r5.1.run x1).bind fun r8 =>
          (
           bif (x1 != p1.pfs) then
            (slices_Equal_Elem F r7.1 r8.1).bind fun r9 =>
            bif (!r9) then
             some true
            else
             (idx r5.1.roles.list x1).bind fun e1 =>
             (idx p0.roles.list x1).bind fun e2 =>
             bif (e1 != e2) then
              some true
             else
              (idx r5.1.fed.list x1).bind fun e3 =>
              (idx p0.fed.list x1).bind fun e4 =>
              some (e3 != e4)
            else
             some false : Option (Bool)).bind fun z3 =>
          bif z3 then
           some (.inr (.inr false))
          else
           some (.inl (IntKind.i64.wrap (x1 + 1)))
          else
           some (.inr (.inl ()))) F 0).bind fun z => match z with
         | .inl _ =>
          some true
         | .inr q => some q : Option (Bool)).bind fun z2 =>
     some (!z2)
     else
      some false : Option (Bool)).bind fun z1 =>
   bif z1 then
    some false
   else
    (realm_Cut F p0 p1 p3).bind fun r10 =>
    (
     bif (r10.2 == 0) then
      (
       (realm_Check F r10.1).bind fun r11 =>
        bif (r11 != 0) then
         some false
        else
         (iter (σ := Int) (ρ := (Unit) ⊕ Bool) (fun x2 =>
          bif decide (x2 < 16) then
           (annalref_Realm F p0.run x2).bind fun r12 =>
           (annalref_Realm F r10.1.run x2).bind fun r13 =>
           (
            bif (x2 != p1.pfs) then
             (slices_Equal_Elem F r12.1 r13.1).bind fun r14 =>
             bif (!r14) then
              some true
             else
              (idx r10.1.roles.list x2).bind fun e5 =>
              (idx p0.roles.list x2).bind fun e6 =>
              bif (e5 != e6) then
               some true
              else
               (idx r10.1.fed.list x2).bind fun e7 =>
               (idx p0.fed.list x2).bind fun e8 =>
               some (e7 != e8)
             else
              some false : Option (Bool)).bind fun z6 =>
           bif z6 then
            some (.inr (.inr false))
           else
            some (.inl (IntKind.i64.wrap (x2 + 1)))
           else
            some (.inr (.inl ()))) F 0).bind fun z => match z with
          | .inl _ =>
           some true
          | .inr q => some q : Option (Bool)).bind fun z5 =>
      some (!z5)
      else
       some false : Option (Bool)).bind fun z4 =>
    bif z4 then
     some false
    else
     (realm_Feed F p0 p4).bind fun r15 =>
     (
      bif (r15.2 != 0) then
       some true
       else
        (annalref_Parse F p4).bind fun r16 =>
        (
         (realm_Check F r15.1).bind fun r17 =>
          bif (r17 != 0) then
           some false
          else
           (iter (σ := Int) (ρ := (Unit) ⊕ Bool) (fun x3 =>
            bif decide (x3 < 16) then
             (annalref_Realm F p0.run x3).bind fun r18 =>
             (annalref_Realm F r15.1.run x3).bind fun r19 =>
             (
              bif (x3 != r16.pfs) then
               (slices_Equal_Elem F r18.1 r19.1).bind fun r20 =>
               bif (!r20) then
                some true
               else
                (idx r15.1.roles.list x3).bind fun e9 =>
                (idx p0.roles.list x3).bind fun e10 =>
                bif (e9 != e10) then
                 some true
                else
                 (idx r15.1.fed.list x3).bind fun e11 =>
                 (idx p0.fed.list x3).bind fun e12 =>
                 some (e11 != e12)
               else
                some false : Option (Bool)).bind fun z9 =>
             bif z9 then
              some (.inr (.inr false))
             else
              some (.inl (IntKind.i64.wrap (x3 + 1)))
             else
              some (.inr (.inl ()))) F 0).bind fun z => match z with
            | .inl _ =>
             some true
            | .inr q => some q : Option (Bool)).bind fun z8 =>
        some z8 : Option (Bool)).bind fun z7 =>
     some z7
end Go.Proofs.Ytdggcklddjndmaa
