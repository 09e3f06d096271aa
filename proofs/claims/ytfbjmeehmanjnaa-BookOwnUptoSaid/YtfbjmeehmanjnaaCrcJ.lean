/- Plain Lean: the checksum: it is linear, a step is one to one, a burst of 16 bits is seen (Peterson, Brown). Its conditions: none. -/
import Derived.Test.YtfbjmeehmanjnaaBytesJ
namespace Go.Proofs.Ytfbjmeehmanjnaa
set_option linter.unusedVariables false
set_option linter.unusedSimpArgs false
def stp (x : BitVec 16) : BitVec 16 := if x.msb then (x <<< 1) ^^^ 0x1021#16 else x <<< 1
def poly (b : Bool) : BitVec 16 := if b then 0x1021#16 else 0#16
theorem stp_eq (x : BitVec 16) : stp x = (x <<< 1) ^^^ poly x.msb := by
 unfold stp poly
 split <;> simp_all
theorem poly_xor (a b : Bool) : poly (a ^^ b) = poly a ^^^ poly b := by cases a <;> cases b <;> rfl
theorem xor4 (a b c d : BitVec 16) : (a ^^^ b) ^^^ (c ^^^ d) = (a ^^^ c) ^^^ (b ^^^ d) := by
 rw [BitVec.xor_assoc, ← BitVec.xor_assoc b c d, BitVec.xor_comm b c, BitVec.xor_assoc c b d, ← BitVec.xor_assoc]
theorem stp_xor (x y : BitVec 16) : stp (x ^^^ y) = stp x ^^^ stp y := by
 rw [stp_eq, stp_eq, stp_eq, BitVec.msb_xor, poly_xor, BitVec.shiftLeft_xor_distrib, xor4]
def fd (x : BitVec 16) (b : Bool) : BitVec 16 := stp (x ^^^ (if b then 0x8000#16 else 0#16))
def crcB (x : BitVec 16) (l : List Bool) : BitVec 16 := l.foldl fd x
def hi16 (b : Bool) : BitVec 16 := if b then 0x8000#16 else 0#16
theorem crcB_append (x : BitVec 16) (l m : List Bool) : crcB x (l ++ m) = crcB (crcB x l) m := List.foldl_append
def word : List Bool → BitVec 16
 | [] => 0#16
 | b :: l => hi16 b ^^^ (word l >>> 1)
def stps : Nat → BitVec 16 → BitVec 16
 | 0, x => x
 | n + 1, x => stps n (stp x)
theorem word_low : ∀ (l : List Bool) (i : Nat), i + l.length < 16 → (word l).getLsbD i = false
 | [], i, _ => by simp [word]
 | b :: l, i, h => by
  have h1 := word_low l (i + 1) (by simp at h; omega)
  have h2 : (hi16 b).getLsbD i = false := by
   cases b
   · simp [hi16]
   · have : i < 15 := by simp at h; omega
     simp only [hi16, if_true]
     rw [show (0x8000#16 : BitVec 16) = BitVec.twoPow 16 15 from rfl, BitVec.getLsbD_twoPow]
     simp; omega
  simp [word, h1, h2, Nat.add_comm 1 i]
theorem stp_half {y : BitVec 16} (h0 : y.getLsbD 0 = false) : stp (y >>> 1) = y := by
 have hm : (y >>> 1).msb = false := by
  rw [BitVec.msb_eq_getLsbD_last]; simp
 rw [stp_eq, hm]
 simp only [poly, Bool.false_eq_true, if_false, BitVec.xor_zero]
 apply BitVec.eq_of_getLsbD_eq
 intro i hi
 rcases Nat.eq_zero_or_pos i with rfl | hp
 · simp; simpa using h0
 · rw [BitVec.getLsbD_shiftLeft, BitVec.getLsbD_ushiftRight]
   simp [hi, show ¬ i < 1 by omega, show 1 + (i - 1) = i by omega]
theorem crcB_word : ∀ (l : List Bool) (x : BitVec 16), l.length ≤ 16 → crcB x l = stps l.length (x ^^^ word l)
 | [], x, _ => by simp [crcB, stps, word]
 | b :: l, x, h => by
  have hl : l.length ≤ 15 := by simpa using h
  show crcB (fd x b) l = stps l.length (stp (x ^^^ (hi16 b ^^^ (word l >>> 1))))
  rw [crcB_word l _ (by omega), ← BitVec.xor_assoc, stp_xor, stp_half (word_low l 0 (by omega))]
  rfl
def bits8 (b : UInt8) : List Bool := (List.range 8).map fun j => b.toNat.testBit (7 - j)
def bitsL (l : List UInt8) : List Bool := l.flatMap bits8
def crc (l : List UInt8) : BitVec 16 := crcB 0#16 (bitsL l)
theorem bits8_length (b : UInt8) : (bits8 b).length = 8 := by simp [bits8]
theorem bitsL_append (a b : List UInt8) : bitsL (a ++ b) = bitsL a ++ bitsL b := List.flatMap_append
theorem word_bits8 (b : UInt8) : word (bits8 b) = BitVec.ofNat 16 b.toNat <<< 8 := by
 have : ∀ n, n < 256 → word ((List.range 8).map fun j => n.testBit (7 - j)) = BitVec.ofNat 16 n <<< 8 := by decide +kernel
 exact this _ b.toNat_lt
def byte8 (x : BitVec 16) (b : UInt8) : BitVec 16 := stps 8 (x ^^^ (BitVec.ofNat 16 b.toNat <<< 8))
theorem crcB_byte (x : BitVec 16) (b : UInt8) : crcB x (bits8 b) = byte8 x b := by
 rw [crcB_word _ _ (by rw [bits8_length]; decide), bits8_length, word_bits8]; rfl
theorem crc_append (a b : List UInt8) : crc (a ++ b) = crcB (crc a) (bitsL b) := by rw [crc, bitsL_append, crcB_append]; rfl
end Go.Proofs.Ytfbjmeehmanjnaa
