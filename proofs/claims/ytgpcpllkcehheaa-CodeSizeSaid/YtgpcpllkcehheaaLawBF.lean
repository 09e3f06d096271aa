/- Pure functions, written by walkgen.py out of the Go functions of group LawB. Their conditions: none. -/
import Derived.Test.YtgpcpllkcehheaaCodeF
import Derived.Test.YtgpcpllkcehheaaOps
namespace Go.Proofs.Ytgpcpllkcehheaa
set_option linter.unusedVariables false

def annalkeep_SumBursts (p0 : ByteArray) (p1 : Int) (p2 : Int) : Option (Bool) :=
  (
    (sum_Of (ByteArray.mk #[])).bind fun r1 =>
      bif (r1 != 0) then
        some true
      else
        (sum_Of (ByteArray.mk #[97])).bind fun r2 =>
        (sum_Of (ByteArray.mk #[98])).bind fun r3 =>
        some (r2 == r3) : Option (Bool)).bind fun z1 =>
  bif z1 then
    some false
  else
    bif ((p2 == 0) || (decide ((p0.size : Int) < 2))) then
      some true
    else
      (annalkeep_Within p1 (IntKind.i64.wrap ((IntKind.i64.wrap (8 * (p0.size : Int))) - 15))).bind fun r4 =>
      (fits p0).bind fun u1 =>
      (iter (σ := (List Int) × Int) (ρ := (List Int)) (fun x => match x with
        | (x1, x2) =>
          bif decide (x2 < 16) then
              (
                (toShift x2).bind fun n1 =>
                  bif ((band .u16 (shr .u16 p2 n1) 1) == 1) then
                    (toShift ((IntKind.i64.wrap (r4 + x2) : Int).tmod 8)).bind fun n2 =>
                    (idx x1 (IntKind.i64.wrap ((IntKind.i64.wrap (r4 + x2) : Int).tdiv 8))).bind fun e1 =>
                    (idx x1 (IntKind.i64.wrap ((IntKind.i64.wrap (r4 + x2) : Int).tdiv 8))).bind fun e2 =>
                    some (x1.set ((IntKind.i64.wrap ((IntKind.i64.wrap (r4 + x2) : Int).tdiv 8)).toNat) (bxor .u8 e1 (shr .u8 128 n2)))
                  else
                    some x1 : Option ((List Int))).bind fun z3 =>
              some (.inl (z3, IntKind.i64.wrap (x2 + 1)))
            else
              some (.inr x1)) FUEL ((listOf p0), 0)).bind fun z2 =>
      (sum_Of (bytesOf z2)).bind fun r6 =>
      (sum_Of p0).bind fun r7 =>
      some (r6 != r7)

def annalkeep_SumTogether (p0 : ByteArray) (p1 : ByteArray) (p2 : Int) : Option (Bool) :=
  (sum_Of (ByteArray.mk #[49, 50, 51, 52, 53, 54, 55, 56, 57])).bind fun r1 =>
  bif (r1 != 12739) then
    some false
  else
    (makes 1 (if (p1.size : Int) < (p0.size : Int) then (p1.size : Int) else (p0.size : Int))).bind fun u1 =>
    (iter (σ := (List Int) × Int) (ρ := (List Int)) (fun x => match x with
      | (x1, x2) =>
        bif decide (x2 < ((List.replicate ((if (p1.size : Int) < (p0.size : Int) then (p1.size : Int) else (p0.size : Int)).toNat) (0 : Int)).length : Int)) then
            (sidx p0 x2).bind fun b1 =>
            (sidx p1 x2).bind fun b2 =>
            (idx x1 x2).bind fun e1 =>
            some (.inl ((x1.set x2.toNat (bxor .u8 (b1.toNat : Int) (b2.toNat : Int))), IntKind.i64.wrap (x2 + 1)))
          else
            some (.inr x1)) FUEL ((List.replicate ((if (p1.size : Int) < (p0.size : Int) then (p1.size : Int) else (p0.size : Int)).toNat) (0 : Int)), 0)).bind fun z1 =>
    (annalkeep_Within p2 40).bind fun r3 =>
    (makes 1 r3).bind fun u2 =>
    (
      (sum_Of (bytesOf z1)).bind fun r5 =>
        (sslice p0 0 (if (p1.size : Int) < (p0.size : Int) then (p1.size : Int) else (p0.size : Int))).bind fun s2 =>
        (sum_Of s2).bind fun r6 =>
        (sslice p1 0 (if (p1.size : Int) < (p0.size : Int) then (p1.size : Int) else (p0.size : Int))).bind fun s3 =>
        (sum_Of s3).bind fun r7 =>
        bif (r5 == (bxor .i64 r6 r7)) then
          (scat (bytesOf (List.replicate r3.toNat (0 : Int))) p0).bind fun s4 =>
          (sum_Of s4).bind fun r8 =>
          (sum_Of p0).bind fun r9 =>
          some (r8 == r9)
        else
          some false : Option (Bool)).bind fun z2 =>
    some z2

def annalkeep_SumNought (p0 : ByteArray) : Option (Bool) :=
  (sum_Of p0).bind fun r1 =>
  (
    (sum_Of (ByteArray.mk #[49, 50, 51, 52, 53, 54, 55, 56, 57, 49, 195])).bind fun r2 =>
      bif (r2 == 0) then
        (sum_Of (ByteArray.mk #[49, 50, 51, 52, 53, 54, 55, 56, 57])).bind fun r3 =>
        bif (r3 == 12739) then
          bif decide ((0 : Int) ≤ r1) then
            bif decide (r1 < 65536) then
              (scat p0 (bytesOf [IntKind.u8.wrap (shr .i64 r1 8), IntKind.u8.wrap r1])).bind fun s1 =>
              (sum_Of s1).bind fun r4 =>
              some (r4 == 0)
            else
              some false
          else
            some false
        else
          some false
      else
        some false : Option (Bool)).bind fun z1 =>
  some z1

def annalkeep_FrameBack (p0 : DFrame) (p1 : ByteArray) (p2 : Int) : Option (Bool) :=
  (frame_Put (DFrame.mk 3 (ByteArray.mk #[]))).bind fun r1 =>
  (
    bif (r1.2 != 0) then
        some true
      else
        bif ((r1.1.size : Int) != 5) then
          some true
        else
          (sslice r1.1 0 3).bind fun s1 =>
          some (!(seq s1 (ByteArray.mk #[3, 0, 0]))) : Option (Bool)).bind fun z1 =>
  bif z1 then
    some false
  else
    (frame_Put p0).bind fun r2 =>
    bif (r2.2 != 0) then
      some (seq r2.1 (ByteArray.mk #[]))
    else
      (scat r2.1 p1).bind fun s2 =>
      (frame_Get s2).bind fun r3 =>
      (annalkeep_Within p2 (r2.1.size : Int)).bind fun r4 =>
      (sslice r2.1 0 r4).bind fun s3 =>
      (frame_Get s3).bind fun r5 =>
      some ((r3.2.2 == 0) && ((r3.1 == p0) && ((r3.2.1 == (r2.1.size : Int)) && (r5.2.2 == 7))))

def annalkeep_FrameBursts (p0 : DFrame) (p1 : Int) (p2 : Int) : Option (Bool) :=
  (frame_Get (ByteArray.mk #[3, 0, 0, 0, 0])).bind fun r1 =>
  bif (r1.2.2 != 6) then
    some false
  else
    (frame_Put p0).bind fun r2 =>
    bif ((r2.2 != 0) || (p2 == 0)) then
      some ((r2.2 == 0) || (seq r2.1 (ByteArray.mk #[])))
    else
      (annalkeep_Within p1 (IntKind.i64.wrap ((IntKind.i64.wrap (8 * (IntKind.i64.wrap ((r2.1.size : Int) - 3)))) - 15))).bind fun r3 =>
      (fits r2.1).bind fun u1 =>
      (iter (σ := (List Int) × Int) (ρ := (List Int)) (fun x => match x with
        | (x1, x2) =>
          bif decide (x2 < 16) then
              (
                (toShift x2).bind fun n1 =>
                  bif ((band .u16 (shr .u16 p2 n1) 1) == 1) then
                    (toShift ((IntKind.i64.wrap ((IntKind.i64.wrap (24 + r3)) + x2) : Int).tmod 8)).bind fun n2 =>
                    (idx x1 (IntKind.i64.wrap ((IntKind.i64.wrap ((IntKind.i64.wrap (24 + r3)) + x2) : Int).tdiv 8))).bind fun e1 =>
                    (idx x1 (IntKind.i64.wrap ((IntKind.i64.wrap ((IntKind.i64.wrap (24 + r3)) + x2) : Int).tdiv 8))).bind fun e2 =>
                    some (x1.set ((IntKind.i64.wrap ((IntKind.i64.wrap ((IntKind.i64.wrap (24 + r3)) + x2) : Int).tdiv 8)).toNat) (bxor .u8 e1 (shr .u8 128 n2)))
                  else
                    some x1 : Option ((List Int))).bind fun z2 =>
              some (.inl (z2, IntKind.i64.wrap (x2 + 1)))
            else
              some (.inr x1)) FUEL ((listOf r2.1), 0)).bind fun z1 =>
      (frame_Get (bytesOf z1)).bind fun r5 =>
      some (r5.2.2 == 6)

def annalkeep_FrameOne (p0 : ByteArray) : Option (Bool) :=
  (frame_Get (ByteArray.mk #[1, 0, 0, 16, 33])).bind fun r1 =>
  bif ((r1.2.1 != 0) || ((r1.2.2 != 6) || (!(r1.1 == (DFrame.mk 0 (ByteArray.mk #[])))))) then
    some false
  else
    (frame_Get p0).bind fun r2 =>
    bif (r2.2.2 != 0) then
      some ((r2.2.1 == 0) && (r2.1 == (DFrame.mk 0 (ByteArray.mk #[]))))
    else
      (frame_Put r2.1).bind fun r3 =>
      (
        bif (r3.2 == 0) then
            bif decide (r2.2.1 ≤ (p0.size : Int)) then
              (sslice p0 0 r2.2.1).bind fun s1 =>
              some (seq r3.1 s1)
            else
              some false
          else
            some false : Option (Bool)).bind fun z1 =>
      some z1

def annalkeep_FrameRow (p0 : DFrame) (p1 : DFrame) (p2 : ByteArray) : Option (Bool) :=
  (frame_Put (DFrame.mk 1 (ByteArray.mk #[120]))).bind fun r1 =>
  bif ((r1.2 != 0) || ((r1.1.size : Int) != 6)) then
    some false
  else
    (frame_Put p0).bind fun r2 =>
    (frame_Put p1).bind fun r3 =>
    bif ((r2.2 != 0) || (r3.2 != 0)) then
      some ((r2.2 == 0) || (seq r2.1 (ByteArray.mk #[])))
    else
      (scat r2.1 r3.1).bind fun s1 =>
      (scat s1 p2).bind fun s2 =>
      (frame_Get s2).bind fun r4 =>
      bif ((r4.2.2 != 0) || (r4.2.1 != (r2.1.size : Int))) then
        some false
      else
        (scat r2.1 r3.1).bind fun s3 =>
        (scat s3 p2).bind fun s4 =>
        (sslice s4 r4.2.1 (s4.size : Int)).bind fun s5 =>
        (frame_Get s5).bind fun r5 =>
        some ((r5.2.2 == 0) && ((r5.2.1 == (r3.1.size : Int)) && ((r4.1 == p0) && (r5.1 == p1))))

def annalkeep_CodeOne (p0 : ByteArray) : Option (Bool) :=
  (code_Get (ByteArray.mk #[120])).bind fun r1 =>
  bif (r1.2.2 != 7) then
    some false
  else
    (code_Get p0).bind fun r2 =>
    bif (r2.2.2 != 0) then
      some ((r2.2.1 == 0) && (r2.1 == (DElem.mk (DKey.mk 0 0 0) 0 0 (ByteArray.mk #[]))))
    else
      (code_Write r2.1).bind fun r3 =>
      (
        bif (r3.2 == 0) then
            bif decide (r2.2.1 ≤ (p0.size : Int)) then
              (sslice p0 0 r2.2.1).bind fun s1 =>
              some (seq r3.1 s1)
            else
              some false
          else
            some false : Option (Bool)).bind fun z1 =>
      some z1

def annalkeep_CodeOrders (p0 : DElem) (p1 : DElem) : Option (Bool) :=
  (annalkeep_at1 1 (ByteArray.mk #[97])).bind fun r1 =>
  (code_Write r1).bind fun r2 =>
  (
    bif (r2.2 != 0) then
        some true
      else
        bif decide ((r2.1.size : Int) < 13) then
          some true
        else
          (sslice r2.1 0 13).bind fun s1 =>
          some (!(seq s1 (ByteArray.mk #[0, 0, 0, 0, 0, 0, 0, 0, 1, 0, 0, 0, 1]))) : Option (Bool)).bind fun z1 =>
  bif z1 then
    some false
  else
    (code_Write p0).bind fun r3 =>
    (code_Write p1).bind fun r4 =>
    bif ((r3.2 != 0) || (r4.2 != 0)) then
      some ((r3.2 == 0) || (seq r3.1 (ByteArray.mk #[])))
    else
      (
        bif decide ((13 : Int) ≤ (r3.1.size : Int)) then
            bif decide ((13 : Int) ≤ (r4.1.size : Int)) then
              (sslice r3.1 0 13).bind fun s2 =>
              (sslice r4.1 0 13).bind fun s3 =>
              (strings_Compare s2 s3).bind fun r5 =>
              (elem_Spot p0).bind fun r6 =>
              (elem_Spot p1).bind fun r7 =>
              (key_CmpSpot r6 r7).bind fun r8 =>
              some (r5 == r8)
            else
              some false
          else
            some false : Option (Bool)).bind fun z2 =>
      some z2

def annalkeep_CodeBack (p0 : DElem) (p1 : DElem) (p2 : ByteArray) (p3 : Int) : Option (Bool) :=
  (annalkeep_at1 1 (ByteArray.mk #[97, 98])).bind fun r1 =>
  (code_Write r1).bind fun r2 =>
  bif ((r2.2 != 0) || ((r2.1.size : Int) != 20)) then
    some false
  else
    (code_Write p0).bind fun r3 =>
    bif (r3.2 != 0) then
      (
        bif (seq r3.1 (ByteArray.mk #[])) then
            (elem_Check p0).bind fun r4 =>
            some (r3.2 == r4)
          else
            some false : Option (Bool)).bind fun z1 =>
      some z1
    else
      (scat r3.1 p2).bind fun s1 =>
      (code_Get s1).bind fun r5 =>
      (annalkeep_Within p3 (r3.1.size : Int)).bind fun r6 =>
      (sslice r3.1 0 r6).bind fun s2 =>
      (code_Get s2).bind fun r7 =>
      bif ((r5.2.2 != 0) || ((!(r5.1 == p0)) || ((r5.2.1 != (r3.1.size : Int)) || (r7.2.2 != 7)))) then
        some false
      else
        (code_Write p1).bind fun r8 =>
        bif (r8.2 != 0) then
          some true
        else
          (scat r3.1 r8.1).bind fun s3 =>
          (code_All s3).bind fun r9 =>
          (
            bif (r9.2 == 0) then
                (slices_Equal_Elem r9.1 [p0, p1]).bind fun r10 =>
                some r10
              else
                some false : Option (Bool)).bind fun z2 =>
          some z2

def annalkeep_CodeSize (p0 : (List DElem)) : Option (Bool) :=
  (annalkeep_at1 1 (ByteArray.mk #[97, 98, 99])).bind fun r1 =>
  (code_Write r1).bind fun r2 =>
  bif ((r2.2 != 0) || ((r2.1.size : Int) != 21)) then
    some false
  else
    (iter (σ := ByteArray × Int × Int) (ρ := (ByteArray × Int) ⊕ Bool) (fun x => match x with
      | (x1, x2, x3) =>
        bif decide (x3 < (p0.length : Int)) then
            (idx p0 x3).bind fun e1 =>
            (code_Write e1).bind fun r3 =>
            bif (r3.2 != 0) then
              (elem_Check e1).bind fun r4 =>
              some (.inr (.inr (r3.2 == r4)))
            else
              (scat x1 r3.1).bind fun s2 =>
              some (.inl (s2, IntKind.i64.wrap (x2 + (IntKind.i64.wrap (18 + (e1.val.size : Int)))), IntKind.i64.wrap (x3 + 1)))
          else
            some (.inr (.inl (x1, x2)))) FUEL ((ByteArray.mk #[]), 0, 0)).bind fun z => match z with
      | .inl (z1, z2) =>
        (code_All z1).bind fun r5 =>
        (
          bif (r5.2 == 0) then
              bif ((z1.size : Int) == z2) then
                (slices_Equal_Elem r5.1 p0).bind fun r6 =>
                some r6
              else
                some false
            else
              some false : Option (Bool)).bind fun z3 =>
        some z3
      | .inr q => some q

end Go.Proofs.Ytgpcpllkcehheaa
