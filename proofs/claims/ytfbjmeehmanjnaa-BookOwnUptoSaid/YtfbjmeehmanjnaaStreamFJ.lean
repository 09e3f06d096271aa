/- Pure functions, written by walkgen.py out of the Go functions of group Stream. Their conditions: none. -/
import Derived.Test.YtfbjmeehmanjnaaRunFJ
import Derived.Test.YtfbjmeehmanjnaaCodeFJ
import Derived.Test.YtfbjmeehmanjnaaMapJ
namespace Go.Proofs.Ytfbjmeehmanjnaa
set_option linter.unusedVariables false
def stream_look (p0 : Int) (p1 : Int) (p2 : Int) : Option (Int) :=
 bif ((decide (p0 < 0)) || (decide ((15 : Int) < p0))) then
  some 1
 else
  bif ((decide (p1 < 0)) || ((decide (p2 < p1)) || (decide ((2147483647 : Int) < p2)))) then
   some 9
  else
   some 0
def stream_fours (F : Nat) (p0 : (List Int)) : Option (ByteArray) :=
 (iter (σ := ByteArray × Int) (ρ := ByteArray) (fun x => match x with
  | (x1, x2) =>
   bif decide (x2 < (p0.length : Int)) then
    (idx p0 x2).bind fun e1 =>
    (big_Put F e1 4).bind fun r1 =>
    (scat x1 r1).bind fun s2 =>
    some (.inl (s2, IntKind.i64.wrap (x2 + 1)))
    else
     some (.inr x1)) F ((ByteArray.mk #[]), 0)).bind fun z1 =>
 some z1
def stream_Parse (F : Nat) (p0 : ByteArray) : Option (Dstream_Parsed × Int) :=
 (frame_Get F p0).bind fun r1 =>
 bif (r1.2.2 != 0) then
  some ((Dstream_Parsed.mk 0 0 0 []), r1.2.2)
 else
  (
   bif ((r1.1.kind != 1) || ((r1.1.body.size : Int) != 12)) then
    some (0, 0, 0, false)
    else
     (
      (sslice r1.1.body 0 4).bind fun s1 =>
       (big_Get F s1).bind fun r2 =>
       some r2 : Option (Int)).bind fun z5 =>
     (
      (sslice r1.1.body 4 8).bind fun s2 =>
       (big_Get F s2).bind fun r3 =>
       some r3 : Option (Int)).bind fun z6 =>
     (
      (sslice r1.1.body 8 12).bind fun s3 =>
       (big_Get F s3).bind fun r4 =>
       some r4 : Option (Int)).bind fun z7 =>
     (stream_look z5 z6 z7).bind fun r5 =>
     some (z5, z6, z7, (r5 == 0)) : Option (Int × Int × Int × Bool)).bind fun z => match z with
   | (z1, z2, z3, z4) =>
    bif (!z4) then
     some ((Dstream_Parsed.mk 0 0 0 []), 3)
    else
     (iter (σ := (List DElem) × Int × ByteArray × ByteArray × Int) (ρ := (Unit) ⊕ (Dstream_Parsed × Int)) (fun x => match x with
      | (x1, x2, x3, x4, x5) =>
       (sslice x4 x5 (x4.size : Int)).bind fun s5 =>
        (frame_Get F s5).bind fun r7 =>
        bif (r7.2.2 != 0) then
         some (.inr (.inr ((Dstream_Parsed.mk 0 0 0 []), r7.2.2)))
        else
         (
          bif (r7.1.kind == 3) then
           (stream_fours F [(x1.length : Int)]).bind fun r8 =>
           bif (seq r7.1.body r8) then
            some (r7.2.1 == (s5.size : Int))
           else
            some false
           else
            some false : Option (Bool)).bind fun z8 =>
         bif z8 then
          some (.inr (.inr ((Dstream_Parsed.mk z1 z2 z3 x1), 0)))
         else
          (
           bif (r7.1.kind != 2) then
            some (x1, true)
            else
             (
              (code_Get F r7.1.body).bind fun r9 =>
               (
                bif (r9.2.2 != 0) then
                 some true
                 else
                  bif (r9.2.1 != (r7.1.body.size : Int)) then
                   some true
                  else
                   bif (r9.1.key.pfs != z1) then
                    some true
                   else
                    (elem_Last r9.1).bind fun r10 =>
                    bif decide (r10 ≤ z2) then
                     some true
                    else
                     (elem_Last r9.1).bind fun r11 =>
                     some (decide (z3 < r11)) : Option (Bool)).bind fun z13 =>
               bif z13 then
                some (x1, false)
               else
                (
                 bif decide ((0 : Int) < (x1.length : Int)) then
                  (idx x1 (IntKind.i64.wrap ((x1.length : Int) - 1))).bind fun e1 =>
                  (elem_Spot e1).bind fun r12 =>
                  (elem_Spot r9.1).bind fun r13 =>
                  (key_CmpSpot r12 r13).bind fun r14 =>
                  some (decide ((0 : Int) ≤ r14))
                  else
                   some false : Option (Bool)).bind fun z14 =>
                bif z14 then
                 some (x1, false)
                else
                 (grow 56 x1 [r9.1]).bind fun y2 =>
                 some ((x1 ++ [r9.1]), true) : Option ((List DElem) × Bool)).bind fun z => match z with
              | (z11, z12) =>
               some (z11, (!z12)) : Option ((List DElem) × Bool)).bind fun z => match z with
           | (z9, z10) =>
            bif z10 then
             some (.inr (.inr ((Dstream_Parsed.mk 0 0 0 []), 3)))
            else
             some (.inl (z9, r7.1.kind, r7.1.body, s5, r7.2.1))) F ([], r1.1.kind, r1.1.body, p0, r1.2.1)).bind fun z => match z with
      | .inl _ =>
       none
      | .inr q => some q
def stream_Merge (F : Nat) (p0 : (List DElem)) (p1 : (List DElem)) : Option (((List DElem))) :=
 (grow 56 ([] : List DElem) p0).bind fun _ =>
 (iter (σ := (List DElem) × Int) (ρ := (List DElem)) (fun x => match x with
  | (x1, x2) =>
   bif decide (x2 < (p1.length : Int)) then
    (
     (idx p1 x2).bind fun e1 =>
      (
       (iter (σ := Int × Int) (ρ := Int) (fun x => match x with
        | (x3, x4) =>
         bif decide (x3 < x4) then
          (
           (idx x1 (IntKind.i64.wrap (shr .u64 (IntKind.u64.wrap (IntKind.i64.wrap (x3 + x4))) 1))).bind fun e2 =>
            (elem_Spot e2).bind fun r2 =>
            (elem_Spot e1).bind fun r3 =>
            (key_CmpSpot r2 r3).bind fun r4 =>
            some (decide ((0 : Int) ≤ r4)) : Option (Bool)).bind fun z5 =>
          bif (!z5) then
           some (.inl (IntKind.i64.wrap ((IntKind.i64.wrap (shr .u64 (IntKind.u64.wrap (IntKind.i64.wrap (x3 + x4))) 1)) + 1), x4))
          else
           some (.inl (x3, IntKind.i64.wrap (shr .u64 (IntKind.u64.wrap (IntKind.i64.wrap (x3 + x4))) 1)))
          else
           some (.inr x3)) F (0, (x1.length : Int))).bind fun z4 =>
        some z4 : Option (Int)).bind fun z3 =>
      (
       bif decide (z3 < (x1.length : Int)) then
        (idx x1 z3).bind fun e3 =>
        (elem_Spot e3).bind fun r5 =>
        (elem_Spot e1).bind fun r6 =>
        some (r5 == r6)
        else
         some false : Option (Bool)).bind fun z6 =>
      bif z6 then
       (idx x1 z3).bind fun e4 =>
       some (x1.set z3.toNat e1)
      else
       (grow 56 x1 [(DElem.mk (DKey.mk 0 0 0) 0 0 (ByteArray.mk #[]))]).bind fun _ =>
       (lslice (x1 ++ [(DElem.mk (DKey.mk 0 0 0) 0 0 (ByteArray.mk #[]))]) (IntKind.i64.wrap (z3 + 1)) ((x1 ++ [(DElem.mk (DKey.mk 0 0 0) 0 0 (ByteArray.mk #[]))]).length : Int)).bind fun s3 =>
       (lslice (x1 ++ [(DElem.mk (DKey.mk 0 0 0) 0 0 (ByteArray.mk #[]))]) z3 ((x1 ++ [(DElem.mk (DKey.mk 0 0 0) 0 0 (ByteArray.mk #[]))]).length : Int)).bind fun s4 =>
       (idx (over (x1 ++ [(DElem.mk (DKey.mk 0 0 0) 0 0 (ByteArray.mk #[]))]) ((IntKind.i64.wrap (z3 + 1)).toNat) (s4.take s3.length)) z3).bind fun e5 =>
       some ((over (x1 ++ [(DElem.mk (DKey.mk 0 0 0) 0 0 (ByteArray.mk #[]))]) ((IntKind.i64.wrap (z3 + 1)).toNat) (s4.take s3.length)).set z3.toNat e1) : Option ((List DElem))).bind fun z2 =>
    some (.inl (z2, IntKind.i64.wrap (x2 + 1)))
    else
     some (.inr x1)) F ((([] : List DElem) ++ p0), 0)).bind fun z1 =>
 some z1
def stream_Feed (F : Nat) (p0 : (List DElem)) (p1 : ByteArray) : Option (((List DElem)) × Int) :=
 (run_Check F p0).bind fun r1 =>
 bif (r1 != 0) then
  some ([], r1)
 else
  (stream_Parse F p1).bind fun r3 =>
  bif (r3.2 != 0) then
   some ([], r3.2)
  else
   (stream_Merge F p0 r3.1.elems).bind fun r5 =>
   bif decide ((400 : Int) < (r5.length : Int)) then
    some ([], 8)
   else
    (run_Check F r5).bind fun r8 =>
    bif (r8 != 0) then
     some ([], 3)
    else
     some (r5, 0)
end Go.Proofs.Ytfbjmeehmanjnaa
