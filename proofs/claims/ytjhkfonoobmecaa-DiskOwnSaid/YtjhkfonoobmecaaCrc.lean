/- Plain Lean: the checksum: it is linear, a step is one to one, a burst of 16 bits is seen (Peterson, Brown). Its conditions: none. -/
import Derived.Test.YtjhkfonoobmecaaBytes
namespace Go.Proofs.Ytjhkfonoobmecaa
set_option linter.unusedVariables false
set_option linter.unusedSimpArgs false

/-! ### One bit -/
def stp (x : BitVec 16) : BitVec 16 := if x.msb then (x <<< 1) ^^^ 0x1021#16 else x <<< 1
def poly (b : Bool) : BitVec 16 := if b then 0x1021#16 else 0#16
theorem stp_eq (x : BitVec 16) : stp x = (x <<< 1) ^^^ poly x.msb := by
  unfold stp poly
  split <;> simp_all
theorem poly_xor (a b : Bool) : poly (a ^^ b) = poly a ^^^ poly b := by cases a <;> cases b <;> rfl
theorem xor4 (a b c d : BitVec 16) : (a ^^^ b) ^^^ (c ^^^ d) = (a ^^^ c) ^^^ (b ^^^ d) := by
  rw [BitVec.xor_assoc, ← BitVec.xor_assoc b c d, BitVec.xor_comm b c, BitVec.xor_assoc c b d, ← BitVec.xor_assoc]
theorem stp_xor (x y : BitVec 16) : stp (x ^^^ y) = stp x ^^^ stp y := by
  rw [stp_eq, stp_eq, stp_eq, BitVec.msb_xor, poly_xor, BitVec.shiftLeft_xor_distrib, xor4]
theorem stp_zero : stp 0#16 = 0#16 := rfl
theorem stp_inj {x : BitVec 16} (h : stp x = 0#16) : x = 0#16 := by
  rw [stp_eq] at h
  have hx : ∀ i, i < 16 → ((x <<< 1) ^^^ poly x.msb).getLsbD i = false := fun i _ => by rw [h]; simp
  have h0 := hx 0 (by decide)
  have hm : x.msb = false := by
    cases hm : x.msb with
    | false => rfl
    | true =>
      rw [hm] at h0
      simp [poly] at h0
  rw [hm] at h
  have h1 : x <<< 1 = 0#16 := by simpa [poly] using h
  apply BitVec.eq_of_getLsbD_eq
  intro i hi
  rcases Nat.lt_or_ge i 15 with h15 | h15
  · have := congrArg (fun z => z.getLsbD (i + 1)) h1
    simp at this
    simpa using this (by omega)
  · have : i = 15 := by omega
    subst this
    have := hm
    rw [BitVec.msb_eq_getLsbD_last] at this
    simpa using this

/-! ### Many bits -/
def fd (x : BitVec 16) (b : Bool) : BitVec 16 := stp (x ^^^ (if b then 0x8000#16 else 0#16))
def crcB (x : BitVec 16) (l : List Bool) : BitVec 16 := l.foldl fd x
def hi16 (b : Bool) : BitVec 16 := if b then 0x8000#16 else 0#16
theorem hi16_xor (a b : Bool) : hi16 (a ^^ b) = hi16 a ^^^ hi16 b := by cases a <;> cases b <;> rfl
theorem fd_xor (x y : BitVec 16) (a b : Bool) : fd (x ^^^ y) (a ^^ b) = fd x a ^^^ fd y b := by
  show stp ((x ^^^ y) ^^^ hi16 (a ^^ b)) = stp (x ^^^ hi16 a) ^^^ stp (y ^^^ hi16 b)
  rw [hi16_xor, xor4, stp_xor]
theorem crcB_xor : ∀ (l m : List Bool) (x y : BitVec 16), l.length = m.length → crcB (x ^^^ y) (List.zipWith (· ^^ ·) l m) = crcB x l ^^^ crcB y m
  | [], [], _, _, _ => rfl
  | a :: l, b :: m, x, y, h => by
    show crcB (fd (x ^^^ y) (a ^^ b)) _ = crcB (fd x a) l ^^^ crcB (fd y b) m
    rw [fd_xor]
    exact crcB_xor l m _ _ (by simpa using h)
  | [], _ :: _, _, _, h => by simp at h
  | _ :: _, [], _, _, h => by simp at h
theorem crcB_append (x : BitVec 16) (l m : List Bool) : crcB x (l ++ m) = crcB (crcB x l) m := List.foldl_append
theorem crcB_zeros : ∀ n, crcB 0#16 (List.replicate n false) = 0#16
  | 0 => rfl
  | n + 1 => by
    rw [List.replicate_succ]
    exact crcB_zeros n
theorem crcB_zeros_inj : ∀ (n : Nat) (x : BitVec 16), crcB x (List.replicate n false) = 0#16 → x = 0#16
  | 0, _, h => h
  | n + 1, x, h => by
    rw [List.replicate_succ] at h
    have h1 := crcB_zeros_inj n (fd x false) h
    have h2 : stp (x ^^^ 0#16) = 0#16 := h1
    rw [BitVec.xor_zero] at h2
    exact stp_inj h2

/-- So many bits as the first bits of a word. -/
def word : List Bool → BitVec 16
  | [] => 0#16
  | b :: l => hi16 b ^^^ (word l >>> 1)
def stps : Nat → BitVec 16 → BitVec 16
  | 0, x => x
  | n + 1, x => stps n (stp x)
theorem stps_xor : ∀ n x y, stps n (x ^^^ y) = stps n x ^^^ stps n y
  | 0, _, _ => rfl
  | n + 1, x, y => by simp only [stps]; rw [stp_xor, stps_xor n]
theorem stps_inj : ∀ n {x}, stps n x = 0#16 → x = 0#16
  | 0, _, h => h
  | n + 1, _, h => stp_inj (stps_inj n h)
theorem word_low : ∀ (l : List Bool) (i : Nat), i + l.length < 16 → (word l).getLsbD i = false
  | [], i, _ => by simp [word]
  | b :: l, i, h => by
    have h1 := word_low l (i + 1) (by simp at h; omega)
    have h2 : (hi16 b).getLsbD i = false := by
      cases b
      · simp [hi16]
      · have : i < 15 := by simp at h; omega
        simp only [hi16, if_true]
        rw [show (0x8000#16 : BitVec 16) = BitVec.twoPow 16 15 from rfl, BitVec.getLsbD_twoPow]
        simp; omega
    simp [word, h1, h2, Nat.add_comm 1 i]
theorem stp_half {y : BitVec 16} (h0 : y.getLsbD 0 = false) : stp (y >>> 1) = y := by
  have hm : (y >>> 1).msb = false := by
    rw [BitVec.msb_eq_getLsbD_last]; simp
  rw [stp_eq, hm]
  simp only [poly, Bool.false_eq_true, if_false, BitVec.xor_zero]
  apply BitVec.eq_of_getLsbD_eq
  intro i hi
  rcases Nat.eq_zero_or_pos i with rfl | hp
  · simp; simpa using h0
  · rw [BitVec.getLsbD_shiftLeft, BitVec.getLsbD_ushiftRight]
    simp [hi, show ¬ i < 1 by omega, show 1 + (i - 1) = i by omega]
theorem crcB_word : ∀ (l : List Bool) (x : BitVec 16), l.length ≤ 16 → crcB x l = stps l.length (x ^^^ word l)
  | [], x, _ => by simp [crcB, stps, word]
  | b :: l, x, h => by
    have hl : l.length ≤ 15 := by simpa using h
    show crcB (fd x b) l = stps l.length (stp (x ^^^ (hi16 b ^^^ (word l >>> 1))))
    rw [crcB_word l _ (by omega), ← BitVec.xor_assoc, stp_xor, stp_half (word_low l 0 (by omega))]
    rfl
theorem word_inj : ∀ (l : List Bool), l.length ≤ 16 → word l = 0#16 → l = List.replicate l.length false
  | [], _, _ => rfl
  | b :: l, h, hw => by
    have hl : l.length ≤ 15 := by simpa using h
    have hb : b = false := by
      have := congrArg (fun z => z.getLsbD 15) hw
      cases b
      · rfl
      · simp [word, hi16] at this
    subst hb
    have hw' : word l >>> 1 = 0#16 := by simpa [word, hi16] using hw
    have hl0 : word l = 0#16 := by
      have h1 := stp_half (word_low l 0 (by omega))
      rw [hw', stp_zero] at h1
      exact h1.symm
    rw [List.length_cons, List.replicate_succ, ← word_inj l (by omega) hl0]
/-- A burst is seen. -/
theorem crcB_burst {l : List Bool} (h : l.length ≤ 16) (hne : true ∈ l) : crcB 0#16 l ≠ 0#16 := by
  intro h0
  rw [crcB_word l _ h, BitVec.zero_xor] at h0
  have := word_inj l h (stps_inj _ h0)
  rw [this] at hne
  exact absurd (List.eq_of_mem_replicate hne) (by decide)

/-! ### Bytes -/
/-- The bits of a byte, the highest first. -/
def bits8 (b : UInt8) : List Bool := (List.range 8).map fun j => b.toNat.testBit (7 - j)
def bitsL (l : List UInt8) : List Bool := l.flatMap bits8
def crc (l : List UInt8) : BitVec 16 := crcB 0#16 (bitsL l)
theorem bits8_length (b : UInt8) : (bits8 b).length = 8 := by simp [bits8]
theorem bitsL_length (l : List UInt8) : (bitsL l).length = 8 * l.length := by
  induction l with
  | nil => rfl
  | cons b l ih => rw [bitsL, List.flatMap_cons, List.length_append, bits8_length, ← bitsL, ih, List.length_cons]; omega
theorem bitsL_append (a b : List UInt8) : bitsL (a ++ b) = bitsL a ++ bitsL b := List.flatMap_append
theorem word_bits8 (b : UInt8) : word (bits8 b) = BitVec.ofNat 16 b.toNat <<< 8 := by
  have : ∀ n, n < 256 → word ((List.range 8).map fun j => n.testBit (7 - j)) = BitVec.ofNat 16 n <<< 8 := by decide +kernel
  exact this _ b.toNat_lt
/-- One byte, as the program takes it. -/
def byte8 (x : BitVec 16) (b : UInt8) : BitVec 16 := stps 8 (x ^^^ (BitVec.ofNat 16 b.toNat <<< 8))
theorem crcB_byte (x : BitVec 16) (b : UInt8) : crcB x (bits8 b) = byte8 x b := by
  rw [crcB_word _ _ (by rw [bits8_length]; decide), bits8_length, word_bits8]; rfl
theorem crc_fold (l : List UInt8) (x : BitVec 16) : crcB x (bitsL l) = l.foldl byte8 x := by
  induction l generalizing x with
  | nil => rfl
  | cons b l ih =>
    rw [bitsL, List.flatMap_cons, crcB_append, crcB_byte, ← bitsL, ih]; rfl
theorem crc_foldl (l : List UInt8) : crc l = l.foldl byte8 0#16 := crc_fold l _
theorem crc_append (a b : List UInt8) : crc (a ++ b) = crcB (crc a) (bitsL b) := by rw [crc, bitsL_append, crcB_append]; rfl
end Go.Proofs.Ytjhkfonoobmecaa
