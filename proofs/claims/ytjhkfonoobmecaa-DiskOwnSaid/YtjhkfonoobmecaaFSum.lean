/- Plain Lean: the checksum that the program computes. Its conditions: none. -/
import Derived.Test.YtjhkfonoobmecaaCodeF
import Derived.Test.YtjhkfonoobmecaaCrc
import Derived.Test.YtjhkfonoobmecaaPLoop
import Derived.Test.YtjhkfonoobmecaaLaw
namespace Go.Proofs.Ytjhkfonoobmecaa
open Go.ChangeShapes
set_option linter.unusedVariables false
set_option linter.unusedSimpArgs false
variable {F : Nat} [Big F]

theorem ofInt16 (X : BitVec 16) : BitVec.ofInt 16 (X.toNat : Int) = X := by simp
theorem wrap16 (X : BitVec 16) : IntKind.u16.wrap (X.toNat : Int) = (X.toNat : Int) := by
  rw [wrapu16]; have := X.isLt; omega
theorem bxor16 (X Y : BitVec 16) : bxor .u16 (X.toNat : Int) (Y.toNat : Int) = ((X ^^^ Y).toNat : Int) := by
  show IntKind.u16.wrap ((BitVec.ofInt 16 (X.toNat : Int) ^^^ BitVec.ofInt 16 (Y.toNat : Int)).toNat : Int) = _
  rw [ofInt16, ofInt16, wrap16]
theorem band16 (X Y : BitVec 16) : band .u16 (X.toNat : Int) (Y.toNat : Int) = ((X &&& Y).toNat : Int) := by
  show IntKind.u16.wrap ((BitVec.ofInt 16 (X.toNat : Int) &&& BitVec.ofInt 16 (Y.toNat : Int)).toNat : Int) = _
  rw [ofInt16, ofInt16, wrap16]
theorem shl16 (X : BitVec 16) {n : Nat} (hn : n ≤ 16) : shl .u16 (X.toNat : Int) n = ((X <<< n).toNat : Int) := by
  show IntKind.u16.wrap ((X.toNat : Int) * 2 ^ min n 16) = _
  rw [wrapu16, Nat.min_eq_left hn, BitVec.toNat_shiftLeft, Nat.shiftLeft_eq]
  rw [Int.natCast_emod, Int.natCast_mul, Int.natCast_pow]
  rfl
theorem shr16 (X : BitVec 16) {n : Nat} (hn : n ≤ 16) : shr .u16 (X.toNat : Int) n = ((X >>> n).toNat : Int) := by
  show Int.fdiv (X.toNat : Int) (2 ^ min n 16) = _
  rw [Nat.min_eq_left hn, BitVec.toNat_ushiftRight, Nat.shiftRight_eq_div_pow, Int.fdiv_eq_ediv_of_nonneg _ (Int.pow_nonneg (by decide)), Int.natCast_ediv, Int.natCast_pow]
  rfl
theorem and_high (X : BitVec 16) : X &&& 0x8000#16 = if X.msb then 0x8000#16 else 0#16 := by
  apply BitVec.eq_of_getLsbD_eq
  intro i hi
  rw [BitVec.getLsbD_and, show (0x8000#16 : BitVec 16) = BitVec.twoPow 16 15 from rfl, BitVec.getLsbD_twoPow, BitVec.msb_eq_getLsbD_last]
  by_cases h : i = 15
  · subst h
    cases hx : X.getLsbD 15 <;> simp [hx, BitVec.getLsbD_twoPow]
  · have h' : ¬ 15 = i := fun e => h e.symm
    cases X.getLsbD (16 - 1) <;> simp [h', BitVec.getLsbD_twoPow]
theorem stp_int (X : BitVec 16) : (bif ((band .u16 (X.toNat : Int) 32768) != 0) then some (bxor .u16 (shl .u16 (X.toNat : Int) 1) 4129) else some (shl .u16 (X.toNat : Int) 1)) = some ((stp X).toNat : Int) := by
  have e1 : band .u16 (X.toNat : Int) 32768 = ((X &&& 0x8000#16).toNat : Int) := band16 X 0x8000#16
  rw [e1, and_high, shl16 X (by decide)]
  unfold stp
  cases X.msb with
  | true => exact congrArg some (bxor16 (X <<< 1) 0x1021#16)
  | false => rfl
theorem stps_zero : ∀ n, stps n 0#16 = 0#16
  | 0 => rfl
  | n + 1 => stps_zero n
theorem stps_succ : ∀ k X, stps (k + 1) X = stp (stps k X)
  | 0, _ => rfl
  | k + 1, X => stps_succ k (stp X)

theorem sum_Of_ofL (l : List UInt8) (hl : l.length ≤ 9223372036854775807) : sum_Of F (ofL l) = some ((crc l).toNat : Int) := by
  unfold sum_Of
  have inner : ∀ X : BitVec 16, iter (σ := Int × Int) (ρ := Int) (fun x => match x with
            | (x3, x4) =>
              bif decide (x4 < 8) then
                  (
                    bif ((band .u16 x3 32768) != 0) then
                        some (bxor .u16 (shl .u16 x3 1) 4129)
                      else
                        some (shl .u16 x3 1) : Option (Int)).bind fun z3 =>
                  some (.inl (z3, IntKind.i64.wrap (x4 + 1)))
                else
                  some (.inr x3)) F ((X.toNat : Int), 0) = some ((stps 8 X).toNat : Int) := fun X => by
    refine iter_big (fun k => (((stps k X).toNat : Int), (k : Int))) 8 (fun k hk => ?_) rfl (by decide) rfl
    dsimp only
    rw [stp_int, show decide ((k : Int) < 8) = true from by simp; omega, wrap64 (by omega) (by omega)]
    simp [stps_succ]
  have outer : ∀ k, k < l.length → (sidx (ofL l) (k : Int)) = some l[k]! := fun k hk => by
    rw [sidx_ofL, if_pos (by omega), Int.toNat_natCast, List.getElem?_eq_getElem hk, getElem!_pos l k hk]
  refine iter_bindF (r := ((crc l).toNat : Int)) (fun k => (((crc (l.take k)).toNat : Int), (k : Int))) l.length hl (by simp [crc, bitsL, crcB]) ?_ (fun k hk => ?_) ?_
  · rw [wrap64 (by omega) (by have := (crc l).isLt; omega)]
  · dsimp only
    rw [show decide ((k : Int) < ((ofL l).size : Int)) = true from by simp; omega, outer k hk]
    have e1 : IntKind.u16.wrap ((l[k]!).toNat : Int) = (((BitVec.ofNat 16 (l[k]!).toNat).toNat : Nat) : Int) := by
      have := (l[k]!).toNat_lt
      rw [wrapu16, BitVec.toNat_ofNat]; omega
    simp only [Option.bind_some, cond_true]
    rw [e1, shl16 _ (by decide), bxor16, inner, wrap64 (by omega) (by omega)]
    have e2 : l.take (k + 1) = l.take k ++ [l[k]!] := by
      rw [List.take_add_one, List.getElem?_eq_getElem hk, getElem!_pos l k hk]; rfl
    have e3 : crc (l.take (k + 1)) = byte8 (crc (l.take k)) l[k]! := by
      rw [e2, crc_append, bitsL, List.flatMap_cons, List.flatMap_nil, List.append_nil, crcB_byte]
    rw [e3]
    simp [byte8]
  · dsimp only
    rw [show decide ((l.length : Int) < ((ofL l).size : Int)) = false from by simp, List.take_length]
    rfl
theorem sum_Of_mk (a : Array UInt8) (ha : a.size ≤ 9223372036854775807) : sum_Of F (ByteArray.mk a) = some ((crc a.toList).toNat : Int) := sum_Of_ofL a.toList (by simpa using ha)

/-- The two bytes of a checksum. -/
def two (X : BitVec 16) : List UInt8 := [UInt8.ofNat (X.toNat / 256), UInt8.ofNat (X.toNat % 256)]
theorem two_int (X : BitVec 16) : bytesOf [IntKind.u8.wrap (shr .i64 (X.toNat : Int) 8), IntKind.u8.wrap (X.toNat : Int)] = ofL (two X) := by
  have hX := X.isLt
  have e1 : shr .i64 (X.toNat : Int) 8 = ((X.toNat / 256 : Nat) : Int) := by
    show Int.fdiv (X.toNat : Int) 256 = _
    rw [Int.fdiv_eq_ediv_of_nonneg _ (by decide), Int.natCast_ediv]; rfl
  rw [e1, wrapu8, wrapu8, bytesOf_eq]
  congr 1
  simp only [List.map_cons, List.map_nil, two]
  congr 2
  · congr 1; omega
theorem crc_two (l : List UInt8) : crc (l ++ two (crc l)) = 0#16 := by
  have key : ∀ X : BitVec 16, crcB X (bitsL (two X)) = 0#16 := fun X => by
    have hX := X.isLt
    have hlen : (bitsL (two X)).length = 16 := by rw [bitsL_length]; rfl
    rw [crcB_word _ _ (by omega), hlen]
    have hw : word (bitsL (two X)) = X := by
      have hb : ∀ (a b : List Bool), a.length = 8 → b.length = 8 → word (a ++ b) = word a ^^^ (word b >>> 8) := by
        intro a b ha hb
        match a, ha with
        | [a0, a1, a2, a3, a4, a5, a6, a7], _ =>
          simp only [List.cons_append, List.nil_append, word, BitVec.ushiftRight_xor_distrib, ← BitVec.shiftRight_add, BitVec.xor_assoc]
          simp
      rw [two, bitsL, List.flatMap_cons, List.flatMap_cons, List.flatMap_nil, List.append_nil, hb _ _ (bits8_length _) (bits8_length _), word_bits8, word_bits8]
      have h1 : (UInt8.ofNat (X.toNat / 256)).toNat = X.toNat / 2 ^ 8 := by simp; omega
      have h2 : (UInt8.ofNat (X.toNat % 256)).toNat = X.toNat % 2 ^ 8 := by simp
      rw [h1, h2]
      apply BitVec.eq_of_getLsbD_eq
      intro i hi
      rw [BitVec.getLsbD_xor, BitVec.getLsbD_ushiftRight, BitVec.getLsbD_shiftLeft, BitVec.getLsbD_shiftLeft, BitVec.getLsbD_ofNat, BitVec.getLsbD_ofNat, Nat.testBit_div_two_pow, Nat.testBit_mod_two_pow]
      by_cases h8 : i < 8
      · simp [h8, hi, show 8 + i < 16 by omega, BitVec.testBit_toNat]
      · simp [h8, hi, show i - 8 < 16 by omega, show 8 + (i - 8) = i by omega, show i - 8 + 8 = i by omega, BitVec.testBit_toNat, BitVec.getLsbD_eq_getElem]
    rw [hw, BitVec.xor_self]
    exact stps_zero _
  rw [crc_append, key]
theorem two_length (X : BitVec 16) : (two X).length = 2 := rfl
theorem crc_nine : (crc [49, 50, 51, 52, 53, 54, 55, 56, 57]).toNat = 12739 := by
  rw [crc_foldl]
  simp only [List.foldl_cons, List.foldl_nil]
  rw [show byte8 0#16 49 = 9842#16 from by decide, show byte8 9842#16 50 = 8373#16 from by decide, show byte8 8373#16 51 = 38738#16 from by decide, show byte8 38738#16 52 = 55177#16 from by decide, show byte8 55177#16 53 = 21612#16 from by decide, show byte8 21612#16 54 = 8420#16 from by decide, show byte8 8420#16 55 = 34518#16 from by decide, show byte8 34518#16 56 = 36885#16 from by decide, show byte8 36885#16 57 = 12739#16 from by decide]
  rfl
theorem crc_eleven : (crc [49, 50, 51, 52, 53, 54, 55, 56, 57, 49, 195]).toNat = 0 := by
  rw [crc_foldl]
  simp only [List.foldl_cons, List.foldl_nil]
  rw [show byte8 0#16 49 = 9842#16 from by decide, show byte8 9842#16 50 = 8373#16 from by decide, show byte8 8373#16 51 = 38738#16 from by decide, show byte8 38738#16 52 = 55177#16 from by decide, show byte8 55177#16 53 = 21612#16 from by decide, show byte8 21612#16 54 = 8420#16 from by decide, show byte8 8420#16 55 = 34518#16 from by decide, show byte8 34518#16 56 = 36885#16 from by decide, show byte8 36885#16 57 = 12739#16 from by decide, show byte8 12739#16 49 = 49920#16 from by decide, show byte8 49920#16 195 = 0#16 from by decide]
  rfl
theorem nine_sum : sum_Of F (ByteArray.mk #[49, 50, 51, 52, 53, 54, 55, 56, 57]) = some 12739 := by
  rw [sum_Of_mk _ (by decide)]
  exact congrArg (fun n : Nat => some (n : Int)) crc_nine
theorem eleven_sum : sum_Of F (ByteArray.mk #[49, 50, 51, 52, 53, 54, 55, 56, 57, 49, 195]) = some 0 := by
  rw [sum_Of_mk _ (by decide)]
  exact congrArg (fun n : Nat => some (n : Int)) crc_eleven

theorem reach {s : ByteArray} (h : s.size ≤ reachBytes) : s.size ≤ 140737488351232 := by
  unfold reachBytes at h
  exact h
/-! ### Together -/
theorem bits8_get (b : UInt8) {j : Nat} (hj : j < 8) : (bits8 b)[j]? = some (b.toNat.testBit (7 - j)) := by
  simp [bits8, hj]
theorem bitsL_get : ∀ (l : List UInt8) (j : Nat), j < 8 * l.length → (bitsL l)[j]? = some ((l.getD (j / 8) 0).toNat.testBit (7 - j % 8))
  | [], j, h => by simp at h
  | b :: l, j, h => by
    rw [bitsL, List.flatMap_cons]
    by_cases hj : j < 8
    · rw [List.getElem?_append_left (by rw [bits8_length]; exact hj), bits8_get b hj, Nat.div_eq_of_lt hj, Nat.mod_eq_of_lt hj]; rfl
    · rw [List.getElem?_append_right (by rw [bits8_length]; omega), bits8_length, ← bitsL, bitsL_get l (j - 8) (by simp at h; omega)]
      have e1 : j / 8 = (j - 8) / 8 + 1 := by omega
      have e2 : j % 8 = (j - 8) % 8 := by omega
      rw [e1, e2]; rfl
theorem zipWith_get {α β γ : Type} (f : α → β → γ) (a : List α) (b : List β) (j : Nat) : (List.zipWith f a b)[j]? = (a[j]?).bind fun x => (b[j]?).map (f x) := by
  rw [List.getElem?_zipWith]
  cases a[j]? <;> cases b[j]? <;> rfl
theorem bitsL_xor (a b : List UInt8) (h : a.length = b.length) : bitsL (List.zipWith (· ^^^ ·) a b) = List.zipWith (· ^^ ·) (bitsL a) (bitsL b) := by
  apply List.ext_getElem?
  intro j
  have hlen : (List.zipWith (· ^^^ ·) a b).length = a.length := by rw [List.length_zipWith, ← h, Nat.min_self]
  by_cases hj : j < 8 * a.length
  · rw [bitsL_get _ _ (by rw [hlen]; exact hj), zipWith_get, bitsL_get a j hj, bitsL_get b j (by rw [← h]; exact hj)]
    simp only [Option.bind_some, Option.map_some]
    congr 1
    have hq : j / 8 < a.length := by omega
    have e : (List.zipWith (· ^^^ ·) a b).getD (j / 8) 0 = a.getD (j / 8) 0 ^^^ b.getD (j / 8) 0 := by
      simp only [List.getD_eq_getElem?_getD, zipWith_get]
      rw [List.getElem?_eq_getElem hq, List.getElem?_eq_getElem (by omega)]
      rfl
    rw [e, UInt8.toNat_xor, Nat.testBit_xor]
  · rw [List.getElem?_eq_none (by rw [bitsL_length, hlen]; omega), List.getElem?_eq_none (by rw [List.length_zipWith, bitsL_length, bitsL_length]; omega)]
theorem crc_xor (a b : List UInt8) (h : a.length = b.length) : crc (List.zipWith (· ^^^ ·) a b) = crc a ^^^ crc b := by
  have := crcB_xor (bitsL a) (bitsL b) 0#16 0#16 (by rw [bitsL_length, bitsL_length, h])
  rw [BitVec.xor_zero] at this
  rw [crc, bitsL_xor a b h, this]; rfl
theorem bits8_zero : bits8 0 = List.replicate 8 false := by decide
theorem bitsL_zeros : ∀ n : Nat, bitsL (List.replicate n 0) = List.replicate (8 * n) false
  | 0 => rfl
  | n + 1 => by
    rw [List.replicate_succ, bitsL, List.flatMap_cons, ← bitsL, bitsL_zeros n, bits8_zero, List.replicate_append_replicate]
    congr 1; omega
theorem crc_zeros (n : Nat) (l : List UInt8) : crc (List.replicate n 0 ++ l) = crc l := by
  rw [crc_append]
  have : crc (List.replicate n 0) = 0#16 := by rw [crc, bitsL_zeros, crcB_zeros]
  rw [this]; rfl

theorem bxor8 (a b : UInt8) : bxor .u8 (a.toNat : Int) (b.toNat : Int) = ((a ^^^ b).toNat : Int) := by
  show IntKind.u8.wrap ((BitVec.ofInt 8 (a.toNat : Int) ^^^ BitVec.ofInt 8 (b.toNat : Int)).toNat : Int) = _
  have e : ∀ a : UInt8, BitVec.ofInt 8 (a.toNat : Int) = a.toBitVec := fun a => by
    rw [BitVec.ofInt_natCast]
    apply BitVec.eq_of_toNat_eq
    rw [BitVec.toNat_ofNat]
    exact Nat.mod_eq_of_lt a.toNat_lt
  rw [e, e, wrapu8, UInt8.toNat_xor]
  have := (a ^^^ b).toNat_lt
  rw [UInt8.toNat_xor] at this
  simp only [BitVec.toNat_xor]
  show ((a.toNat ^^^ b.toNat : Nat) : Int) % 256 = _
  omega
theorem bxor64 (X Y : BitVec 16) : bxor .i64 (X.toNat : Int) (Y.toNat : Int) = ((X ^^^ Y).toNat : Int) := by
  show IntKind.i64.wrap ((BitVec.ofInt 64 (X.toNat : Int) ^^^ BitVec.ofInt 64 (Y.toNat : Int)).toNat : Int) = _
  have hX := X.isLt
  have hY := Y.isLt
  have hXY := (X ^^^ Y).isLt
  have e : (BitVec.ofInt 64 (X.toNat : Int) ^^^ BitVec.ofInt 64 (Y.toNat : Int)).toNat = (X ^^^ Y).toNat := by
    rw [BitVec.ofInt_natCast, BitVec.ofInt_natCast, BitVec.toNat_xor, BitVec.toNat_ofNat, BitVec.toNat_ofNat, BitVec.toNat_xor, Nat.mod_eq_of_lt (by omega), Nat.mod_eq_of_lt (by omega)]
  rw [e, wrap64 (by omega) (by omega)]

theorem makes1 {n : Int} (h0 : 0 ≤ n) (h1 : n ≤ 140737488355328) : makes 1 n = some () := by
  unfold makes maxLen
  rw [if_pos ⟨h0, by omega, by omega⟩]
theorem idx_nat {α : Type} (l : List α) (k : Nat) : idx l (k : Int) = l[k]? := by
  unfold idx
  rw [if_neg (by omega), Int.toNat_natCast]
theorem bytesOf_zeros (n : Nat) : bytesOf (List.replicate n (0 : Int)) = ofL (List.replicate n 0) := by
  rw [bytesOf_eq, List.map_replicate]; rfl

theorem min_int (x y : Nat) : (if (y : Int) < (x : Int) then (y : Int) else (x : Int)) = ((min x y : Nat) : Int) := by
  rcases Nat.lt_or_ge y x with h | h
  · rw [if_pos (by omega), Nat.min_eq_right (by omega)]
  · rw [if_neg (by omega), Nat.min_eq_left (by omega)]
end Go.Proofs.Ytjhkfonoobmecaa
