/- Pure functions, written by walkgen.py out of the Go functions of group Word. Their conditions: none. -/
import Derived.Test.YtaccejbajgmdnaaDoorLibDF
import Derived.Test.YtaccejbajgmdnaaDoorBldC
import Derived.Test.YtaccejbajgmdnaaDoorMap
namespace Go.Proofs.YtaccejbajgmdnaaDoor
set_option linter.unusedVariables false

def dump_word (F : Nat) (p0 : ByteArray) : Option (ByteArray) :=
  bif (seq p0 (ByteArray.mk #[])) then
    some (ByteArray.mk #[95])
  else
    (iter (σ := ByteArray × Int) (ρ := ByteArray) (fun x => match x with
      | (x1, x2) =>
        bif decide (x2 < (p0.size : Int)) then
            (
              (sidx p0 x2).bind fun b2 =>
                bif ((decide ((32 : Int) < (b2.toNat : Int))) && ((decide ((b2.toNat : Int) < 127)) && (((b2.toNat : Int) != 37) && ((b2.toNat : Int) != 95)))) then
                  (bgrow x1 (ByteArray.mk #[b2])).bind fun _ =>
                  some (x1 ++ (ByteArray.mk #[b2]))
                else
                  (sslice (ByteArray.mk #[48, 49, 50, 51, 52, 53, 54, 55, 56, 57, 97, 98, 99, 100, 101, 102]) (shr .u8 (b2.toNat : Int) 4) (IntKind.u8.wrap ((shr .u8 (b2.toNat : Int) 4) + 1))).bind fun s2 =>
                  (scat (ByteArray.mk #[37]) s2).bind fun s3 =>
                  (sslice (ByteArray.mk #[48, 49, 50, 51, 52, 53, 54, 55, 56, 57, 97, 98, 99, 100, 101, 102]) (band .u8 (b2.toNat : Int) 15) (IntKind.u8.wrap ((band .u8 (b2.toNat : Int) 15) + 1))).bind fun s4 =>
                  (scat s3 s4).bind fun s5 =>
                  (bgrow x1 s5).bind fun _ =>
                  some (x1 ++ s5) : Option (ByteArray)).bind fun z2 =>
            some (.inl (z2, IntKind.i64.wrap (x2 + 1)))
          else
            some (.inr x1)) F ((ByteArray.mk #[]), 0)).bind fun z1 =>
    some z1

def dump_value (F : Nat) (p0 : ByteArray) : Option (ByteArray × Bool) :=
  bif (seq p0 (ByteArray.mk #[95])) then
    some ((ByteArray.mk #[]), true)
  else
    (iter (σ := (List Int) × Int) (ρ := ((List Int)) ⊕ (ByteArray × Bool)) (fun x => match x with
      | (x1, x2) =>
        bif decide (x2 < (p0.size : Int)) then
            (
              (sidx p0 x2).bind fun b1 =>
                bif ((b1.toNat : Int) != 37) then
                  (sidx p0 x2).bind fun b2 =>
                  (grow 1 x1 [(b2.toNat : Int)]).bind fun _ =>
                  some (.inl ((x1 ++ [(b2.toNat : Int)]), x2))
                else
                  bif decide ((p0.size : Int) ≤ (IntKind.i64.wrap (x2 + 2))) then
                    some (.inr (.inr (.inr ((ByteArray.mk #[]), false))))
                  else
                    (sidx p0 (IntKind.i64.wrap (x2 + 1))).bind fun b4 =>
                    (strings_IndexByte (ByteArray.mk #[48, 49, 50, 51, 52, 53, 54, 55, 56, 57, 97, 98, 99, 100, 101, 102]) (b4.toNat : Int)).bind fun r2 =>
                    (sidx p0 (IntKind.i64.wrap (x2 + 2))).bind fun b5 =>
                    (strings_IndexByte (ByteArray.mk #[48, 49, 50, 51, 52, 53, 54, 55, 56, 57, 97, 98, 99, 100, 101, 102]) (b5.toNat : Int)).bind fun r3 =>
                    bif ((decide (r2 < 0)) || (decide (r3 < 0))) then
                      some (.inr (.inr (.inr ((ByteArray.mk #[]), false))))
                    else
                      (grow 1 x1 [IntKind.u8.wrap (bor .i64 (shl .i64 r2 4) r3)]).bind fun _ =>
                      some (.inl ((x1 ++ [IntKind.u8.wrap (bor .i64 (shl .i64 r2 4) r3)]), IntKind.i64.wrap (x2 + 2))) : Option (((List Int) × Int) ⊕ (((List Int) × Int) ⊕ (((List Int)) ⊕ (ByteArray × Bool))))).bind fun z => match z with
              | .inl (z2, z3) =>
                some (.inl (z2, IntKind.i64.wrap (z3 + 1)))
              | .inr q => some q
          else
            some (.inr (.inl x1))) F ([], 0)).bind fun z => match z with
      | .inl z1 =>
        some ((bytesOf z1), true)
      | .inr q => some q

end Go.Proofs.YtaccejbajgmdnaaDoor
