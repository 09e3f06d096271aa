/- Plain Lean: the checksum that the program computes. Its conditions: none. -/
import Derived.Test.YtfbjmeehmanjnaaCodeFJ
import Derived.Test.YtfbjmeehmanjnaaCrcJ
import Derived.Test.YtfbjmeehmanjnaaPLoopJ
import Derived.Test.YtfbjmeehmanjnaaLawJ
namespace Go.Proofs.Ytfbjmeehmanjnaa
open Go.ChangeShapes
set_option linter.unusedVariables false
set_option linter.unusedSimpArgs false
variable {F : Nat} [Big F]
theorem ofInt16 (X : BitVec 16) : BitVec.ofInt 16 (X.toNat : Int) = X := by simp
theorem wrap16 (X : BitVec 16) : IntKind.u16.wrap (X.toNat : Int) = (X.toNat : Int) := by
 rw [wrapu16]; have := X.isLt; omega
theorem bxor16 (X Y : BitVec 16) : bxor .u16 (X.toNat : Int) (Y.toNat : Int) = ((X ^^^ Y).toNat : Int) := by
 show IntKind.u16.wrap ((BitVec.ofInt 16 (X.toNat : Int) ^^^ BitVec.ofInt 16 (Y.toNat : Int)).toNat : Int) = _
 rw [ofInt16, ofInt16, wrap16]
theorem band16 (X Y : BitVec 16) : band .u16 (X.toNat : Int) (Y.toNat : Int) = ((X &&& Y).toNat : Int) := by
 show IntKind.u16.wrap ((BitVec.ofInt 16 (X.toNat : Int) &&& BitVec.ofInt 16 (Y.toNat : Int)).toNat : Int) = _
 rw [ofInt16, ofInt16, wrap16]
theorem shl16 (X : BitVec 16) {n : Nat} (hn : n ≤ 16) : shl .u16 (X.toNat : Int) n = ((X <<< n).toNat : Int) := by
 show IntKind.u16.wrap ((X.toNat : Int) * 2 ^ min n 16) = _
 rw [wrapu16, Nat.min_eq_left hn, BitVec.toNat_shiftLeft, Nat.shiftLeft_eq]
 rw [Int.natCast_emod, Int.natCast_mul, Int.natCast_pow]
 rfl
theorem and_high (X : BitVec 16) : X &&& 0x8000#16 = if X.msb then 0x8000#16 else 0#16 := by
 apply BitVec.eq_of_getLsbD_eq
 intro i hi
 rw [BitVec.getLsbD_and, show (0x8000#16 : BitVec 16) = BitVec.twoPow 16 15 from rfl, BitVec.getLsbD_twoPow, BitVec.msb_eq_getLsbD_last]
 by_cases h : i = 15
 · subst h
   cases hx : X.getLsbD 15 <;> simp [hx, BitVec.getLsbD_twoPow]
 · have h' : ¬ 15 = i := fun e => h e.symm
   cases X.getLsbD (16 - 1) <;> simp [h', BitVec.getLsbD_twoPow]
theorem stp_int (X : BitVec 16) : (bif ((band .u16 (X.toNat : Int) 32768) != 0) then some (bxor .u16 (shl .u16 (X.toNat : Int) 1) 4129) else some (shl .u16 (X.toNat : Int) 1)) = some ((stp X).toNat : Int) := by
 have e1 : band .u16 (X.toNat : Int) 32768 = ((X &&& 0x8000#16).toNat : Int) := band16 X 0x8000#16
 rw [e1, and_high, shl16 X (by decide)]
 unfold stp
 cases X.msb with
 | true => exact congrArg some (bxor16 (X <<< 1) 0x1021#16)
 | false => rfl
theorem stps_succ : ∀ k X, stps (k + 1) X = stp (stps k X)
 | 0, _ => rfl
 | k + 1, X => stps_succ k (stp X)
theorem sum_Of_ofL (l : List UInt8) (hl : l.length ≤ 9223372036854775807) : sum_Of F (ofL l) = some ((crc l).toNat : Int) := by
 unfold sum_Of
 have inner : ∀ X : BitVec 16, iter (σ := Int × Int) (ρ := Int) (fun x => match x with
  | (x3, x4) =>
   bif decide (x4 < 8) then
    (
     bif ((band .u16 x3 32768) != 0) then
      some (bxor .u16 (shl .u16 x3 1) 4129)
      else
       some (shl .u16 x3 1) : Option (Int)).bind fun z3 =>
    some (.inl (z3, IntKind.i64.wrap (x4 + 1)))
    else
     some (.inr x3)) F ((X.toNat : Int), 0) = some ((stps 8 X).toNat : Int) := fun X => by
  refine iter_big (fun k => (((stps k X).toNat : Int), (k : Int))) 8 (fun k hk => ?_) rfl (by decide) rfl
  dsimp only
  rw [stp_int, show decide ((k : Int) < 8) = true from by simp; omega, wrap64 (by omega) (by omega)]
  simp [stps_succ]
 have outer : ∀ k, k < l.length → (sidx (ofL l) (k : Int)) = some l[k]! := fun k hk => by
  rw [sidx_ofL, if_pos (by omega), Int.toNat_natCast, List.getElem?_eq_getElem hk, getElem!_pos l k hk]
 refine iter_bindF (r := ((crc l).toNat : Int)) (fun k => (((crc (l.take k)).toNat : Int), (k : Int))) l.length hl (by simp [crc, bitsL, crcB]) ?_ (fun k hk => ?_) ?_
 · rw [wrap64 (by omega) (by have := (crc l).isLt; omega)]
 · dsimp only
   rw [show decide ((k : Int) < ((ofL l).size : Int)) = true from by simp; omega, outer k hk]
   have e1 : IntKind.u16.wrap ((l[k]!).toNat : Int) = (((BitVec.ofNat 16 (l[k]!).toNat).toNat : Nat) : Int) := by
    have := (l[k]!).toNat_lt
    rw [wrapu16, BitVec.toNat_ofNat]; omega
   simp only [Option.bind_some, cond_true]
   rw [e1, shl16 _ (by decide), bxor16, inner, wrap64 (by omega) (by omega)]
   have e2 : l.take (k + 1) = l.take k ++ [l[k]!] := by
    rw [List.take_add_one, List.getElem?_eq_getElem hk, getElem!_pos l k hk]; rfl
   have e3 : crc (l.take (k + 1)) = byte8 (crc (l.take k)) l[k]! := by
    rw [e2, crc_append, bitsL, List.flatMap_cons, List.flatMap_nil, List.append_nil, crcB_byte]
   rw [e3]
   simp [byte8]
 · dsimp only
   rw [show decide ((l.length : Int) < ((ofL l).size : Int)) = false from by simp, List.take_length]
   rfl
def two (X : BitVec 16) : List UInt8 := [UInt8.ofNat (X.toNat / 256), UInt8.ofNat (X.toNat % 256)]
theorem makes1 {n : Int} (h0 : 0 ≤ n) (h1 : n ≤ 140737488355328) : makes 1 n = some () := by
 unfold makes maxLen
 rw [if_pos ⟨h0, by omega, by omega⟩]
theorem idx_nat {α : Type} (l : List α) (k : Nat) : idx l (k : Int) = l[k]? := by
 unfold idx
 rw [if_neg (by omega), Int.toNat_natCast]
end Go.Proofs.Ytfbjmeehmanjnaa
