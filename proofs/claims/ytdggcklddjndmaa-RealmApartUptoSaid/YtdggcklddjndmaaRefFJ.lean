/- Pure functions, written by walkgen.py out of the Go functions of group Ref. Their conditions: none. -/
import Derived.Test.YtdggcklddjndmaaFeedFJ
import Derived.Test.YtdggcklddjndmaaRecJ
import Derived.Test.YtdggcklddjndmaaMapJ
namespace Go.Proofs.Ytdggcklddjndmaa
set_option linter.unusedVariables false
def annalref_between (p0 : Int) (p1 : Int) : Option (Bool) :=
 some ((decide ((0 : Int) ≤ p0)) && (decide (p0 ≤ p1)))
def annalref_Key (p0 : DKey) : Option (Int) :=
 (
  (annalref_between p0.pfs 15).bind fun r1 =>
   bif r1 then
    (annalref_between p0.obj 1048576).bind fun r2 =>
    bif r2 then
     (annalref_between p0.off 1073741824).bind fun r3 =>
     some r3
    else
     some false
   else
    some false : Option (Bool)).bind fun z1 =>
 bif z1 then
  some 0
 else
  some 1
def annalref_Ahead (p0 : DKey) (p1 : DKey) : Option (Bool) :=
 bif (p0.pfs != p1.pfs) then
  some (decide (p0.pfs < p1.pfs))
 else
  bif (p0.obj != p1.obj) then
   some (decide (p0.obj < p1.obj))
  else
   some (decide (p0.off < p1.off))
def annalref_Big (F : Nat) (p0 : ByteArray) : Option (Int) :=
 (iter (σ := Int × Int) (ρ := Int) (fun x => match x with
  | (x1, x2) =>
   bif decide (x2 < (p0.size : Int)) then
    (sidx p0 x2).bind fun b1 =>
    some (.inl (IntKind.i64.wrap ((IntKind.i64.wrap (256 * x1)) + (IntKind.i64.wrap (b1.toNat : Int))), IntKind.i64.wrap (x2 + 1)))
    else
     some (.inr x1)) F (0, 0)).bind fun z1 =>
 some z1
def annalref_Elem (p0 : DElem) : Option (Int) :=
 (annalref_Key p0.key).bind fun r1 =>
 bif (r1 != 0) then
  some r1
 else
  bif ((decide (p0.made < 1)) || (decide ((2147483647 : Int) < p0.made))) then
   some 9
  else
   bif ((p0.gone != 0) && ((decide (p0.gone < (IntKind.i64.wrap (p0.made + 1)))) || (decide ((2147483647 : Int) < p0.gone)))) then
    some 9
   else
    bif decide ((40 : Int) < (p0.val.size : Int)) then
     some 2
    else
     some 0
def annalref_Spot (p0 : DElem) : Option (DSpot) :=
 some (DSpot.mk p0.key p0.made)
def annalref_Last (p0 : DElem) : Option (Int) :=
 bif decide (p0.made < p0.gone) then
  some p0.gone
 else
  some p0.made
def annalref_AheadSpot (p0 : DSpot) (p1 : DSpot) : Option (Bool) :=
 (
  (annalref_Ahead p0.key p1.key).bind fun r1 =>
   bif r1 then
    some true
   else
    bif (p0.key == p1.key) then
     some (decide (p0.made < p1.made))
    else
     some false : Option (Bool)).bind fun z1 =>
 some z1
def annalref_Rising (F : Nat) (p0 : (List DElem)) : Option (Bool) :=
 (iter (σ := Int) (ρ := (Unit) ⊕ Bool) (fun x1 =>
  bif decide (x1 < (p0.length : Int)) then
   (idx p0 (IntKind.i64.wrap (x1 - 1))).bind fun e1 =>
   (annalref_Spot e1).bind fun r1 =>
   (idx p0 x1).bind fun e2 =>
   (annalref_Spot e2).bind fun r2 =>
   (annalref_AheadSpot r1 r2).bind fun r3 =>
   bif (!r3) then
    some (.inr (.inr false))
   else
    some (.inl (IntKind.i64.wrap (x1 + 1)))
   else
    some (.inr (.inl ()))) F 1).bind fun z => match z with
  | .inl _ =>
   some true
  | .inr q => some q
def annalref_Sum (F : Nat) (p0 : ByteArray) : Option (Int) :=
 (iter (σ := Int × Int) (ρ := Int) (fun x => match x with
  | (x1, x2) =>
   bif decide (x2 < (IntKind.i64.wrap (8 * (IntKind.i64.wrap ((p0.size : Int) + 2))))) then
    (
     (
      bif decide (x2 < (IntKind.i64.wrap (8 * (p0.size : Int)))) then
       (sidx p0 (IntKind.i64.wrap ((x2 : Int).tdiv 8))).bind fun b1 =>
       (toShift (IntKind.i64.wrap (7 - ((x2 : Int).tmod 8)))).bind fun n1 =>
       some (band .i64 (IntKind.i64.wrap (shr .u8 (b1.toNat : Int) n1)) 1)
       else
        some 0 : Option (Int)).bind fun z3 =>
      bif decide ((65536 : Int) ≤ (IntKind.i64.wrap ((IntKind.i64.wrap (x1 * 2)) + z3))) then
       some (bxor .i64 (IntKind.i64.wrap ((IntKind.i64.wrap ((IntKind.i64.wrap (x1 * 2)) + z3)) - 65536)) 4129)
      else
       some (IntKind.i64.wrap ((IntKind.i64.wrap (x1 * 2)) + z3)) : Option (Int)).bind fun z2 =>
    some (.inl (z2, IntKind.i64.wrap (x2 + 1)))
    else
     some (.inr x1)) F (0, 0)).bind fun z1 =>
 some z1
def annalref_Span (p0 : Int) (p1 : Int) (p2 : Int) : Option (Int) :=
 (annalref_between p0 15).bind fun r1 =>
 bif (!r1) then
  some 1
 else
  bif ((decide (p1 < 0)) || ((decide (p2 < p1)) || (decide ((2147483647 : Int) < p2)))) then
   some 9
  else
   some 0
def annalref_Unframe (F : Nat) (p0 : ByteArray) : Option (DFrame × Int × Int) :=
 bif decide ((p0.size : Int) < 5) then
  some ((DFrame.mk 0 (ByteArray.mk #[])), 0, 7)
 else
  (sslice p0 1 3).bind fun s1 =>
  (annalref_Big F s1).bind fun r1 =>
  (
   (sidx p0 0).bind fun b2 =>
    bif ((b2.toNat : Int) == 0) then
     some true
    else
     some (decide ((3000 : Int) < r1)) : Option (Bool)).bind fun z1 =>
  bif z1 then
   some ((DFrame.mk 0 (ByteArray.mk #[])), 0, 3)
  else
   bif decide ((p0.size : Int) < (IntKind.i64.wrap (5 + r1))) then
    some ((DFrame.mk 0 (ByteArray.mk #[])), 0, 7)
   else
    (sslice p0 (IntKind.i64.wrap (3 + r1)) (IntKind.i64.wrap (5 + r1))).bind fun s2 =>
    (annalref_Big F s2).bind fun r2 =>
    (sslice p0 0 (IntKind.i64.wrap (3 + r1))).bind fun s3 =>
    (annalref_Sum F s3).bind fun r3 =>
    bif (r2 != r3) then
     some ((DFrame.mk 0 (ByteArray.mk #[])), 0, 6)
    else
     (sslice p0 0 1).bind fun s4 =>
     (sslice p0 3 (IntKind.i64.wrap (3 + r1))).bind fun s5 =>
     (annalref_Big F s4).bind fun r4 =>
     some ((DFrame.mk r4 s5), IntKind.i64.wrap (5 + r1), 0)
def annalref_Unbytes (F : Nat) (p0 : ByteArray) : Option (DElem × Int × Int) :=
 bif decide ((p0.size : Int) < 18) then
  some ((DElem.mk (DKey.mk 0 0 0) 0 0 (ByteArray.mk #[])), 0, 7)
 else
  (sslice p0 17 18).bind fun s1 =>
  (annalref_Big F s1).bind fun r1 =>
  bif decide ((p0.size : Int) < (IntKind.i64.wrap (18 + r1))) then
   some ((DElem.mk (DKey.mk 0 0 0) 0 0 (ByteArray.mk #[])), 0, 7)
  else
   (sslice p0 0 1).bind fun s2 =>
   (sslice p0 1 5).bind fun s3 =>
   (sslice p0 5 9).bind fun s4 =>
   (sslice p0 9 13).bind fun s5 =>
   (sslice p0 13 17).bind fun s6 =>
   (sslice p0 18 (IntKind.i64.wrap (18 + r1))).bind fun s7 =>
   (annalref_Big F s2).bind fun r2 =>
   (annalref_Big F s3).bind fun r3 =>
   (annalref_Big F s4).bind fun r4 =>
   (annalref_Big F s5).bind fun r5 =>
   (annalref_Big F s6).bind fun r6 =>
   (annalref_Elem (DElem.mk (DKey.mk r2 r3 r4) r5 r6 s7)).bind fun r7 =>
   bif (r7 != 0) then
    some ((DElem.mk (DKey.mk 0 0 0) 0 0 (ByteArray.mk #[])), 0, 3)
   else
    some ((DElem.mk (DKey.mk r2 r3 r4) r5 r6 s7), IntKind.i64.wrap (18 + r1), 0)
def annalref_Parse (F : Nat) (p0 : ByteArray) : Option (Dannalref_Parsed) :=
 (iter (σ := (List DElem) × Int × Int × Int × ByteArray × Int) (ρ := (Unit) ⊕ Dannalref_Parsed) (fun x => match x with
  | (x1, x2, x3, x4, x5, x6) =>
   (annalref_Unframe F x5).bind fun r2 =>
    bif (r2.2.2 != 0) then
     some (.inr (.inr (Dannalref_Parsed.mk 0 0 0 [] r2.2.2)))
    else
     (sslice x5 r2.2.1 (x5.size : Int)).bind fun s2 =>
     (
      bif (x6 == 0) then
       bif ((r2.1.kind == 1) && ((r2.1.body.size : Int) == 12)) then
        (sslice r2.1.body 0 4).bind fun s3 =>
        (sslice r2.1.body 4 8).bind fun s4 =>
        (sslice r2.1.body 8 (r2.1.body.size : Int)).bind fun s5 =>
        (annalref_Big F s3).bind fun r3 =>
        (annalref_Big F s4).bind fun r4 =>
        (annalref_Big F s5).bind fun r5 =>
        (annalref_Span r3 r4 r5).bind fun r6 =>
        some (.inl (x1, r3, r4, r5, (r6 == 0)))
       else
        some (.inl (x1, x2, x3, x4, ((r2.1.kind == 1) && ((r2.1.body.size : Int) == 12))))
       else
        bif (r2.1.kind == 2) then
         (annalref_Unbytes F r2.1.body).bind fun r7 =>
         (grow 56 x1 [r7.1]).bind fun _ =>
         bif (r7.2.2 == 0) then
          bif (r7.2.1 == (r2.1.body.size : Int)) then
           bif (r7.1.key.pfs == x2) then
            (annalref_Last r7.1).bind fun r8 =>
            bif decide (x3 < r8) then
             (annalref_Last r7.1).bind fun r9 =>
             bif decide (r9 ≤ x4) then
              (annalref_Rising F (x1 ++ [r7.1])).bind fun r10 =>
              some (.inl ((x1 ++ [r7.1]), x2, x3, x4, r10))
             else
              some (.inl ((x1 ++ [r7.1]), x2, x3, x4, false))
            else
             some (.inl ((x1 ++ [r7.1]), x2, x3, x4, false))
           else
            some (.inl ((x1 ++ [r7.1]), x2, x3, x4, false))
          else
           some (.inl ((x1 ++ [r7.1]), x2, x3, x4, false))
         else
          some (.inl ((x1 ++ [r7.1]), x2, x3, x4, false))
        else
         bif (r2.1.kind == 3) then
          (
           bif (seq s2 (ByteArray.mk #[])) then
            (fixD (σ := Int × Int) (ρ := ByteArray) (fun rf1 x => match x with
             | (x7, x8) =>
              bif (x8 == 0) then
               some (ByteArray.mk #[])
               else
                (rf1 (IntKind.i64.wrap ((x7 : Int).tdiv 256), IntKind.i64.wrap (x8 - 1))).bind fun z8 =>
                (scat z8 (bytesOf [IntKind.u8.wrap ((x7 : Int).tmod 256)])).bind fun s6 =>
                some s6) F (IntKind.i64.wrap (x6 - 1), 4)).bind fun q3 =>
            some (seq r2.1.body q3)
            else
             some false : Option (Bool)).bind fun z6 =>
          bif z6 then
           some (.inr (.inr (.inr (Dannalref_Parsed.mk x2 x3 x4 x1 0))))
          else
           some (.inl (x1, x2, x3, x4, false))
         else
          some (.inl (x1, x2, x3, x4, false)) : Option (((List DElem) × Int × Int × Int × Bool) ⊕ (((List DElem) × Int × Int × Int × ByteArray × Int) ⊕ ((Unit) ⊕ Dannalref_Parsed)))).bind fun z => match z with
      | .inl (z1, z2, z3, z4, z5) =>
       bif (!z5) then
        some (.inr (.inr (Dannalref_Parsed.mk 0 0 0 [] 3)))
       else
        some (.inl (z1, z2, z3, z4, s2, IntKind.i64.wrap (x6 + 1)))
      | .inr q => some q) F ([], 0, 0, 0, p0, 0)).bind fun z => match z with
  | .inl _ =>
   none
  | .inr q => some q
end Go.Proofs.Ytdggcklddjndmaa
