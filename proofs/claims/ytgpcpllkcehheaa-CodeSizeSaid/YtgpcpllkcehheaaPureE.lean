/- Plain Lean: bursts. Its conditions: none. -/
import Derived.Test.YtgpcpllkcehheaaPureB
namespace Go.Proofs.Ytgpcpllkcehheaa
open Go.ChangeShapes
set_option linter.unusedVariables false
set_option linter.unusedSimpArgs false

/-- One bit of a text turned. -/
def flip (l : List UInt8) (p : Nat) : List UInt8 := l.set (p / 8) (l.getD (p / 8) 0 ^^^ UInt8.ofNat (2 ^ (7 - p % 8)))
theorem flip_length (l : List UInt8) (p : Nat) : (flip l p).length = l.length := by simp [flip]
theorem testBit_pow (i j : Nat) : (2 ^ i).testBit j = decide (i = j) := Nat.testBit_two_pow
theorem bitsL_flip (l : List UInt8) (p : Nat) (hp : p < 8 * l.length) : bitsL (flip l p) = List.zipWith (· ^^ ·) (bitsL l) ((List.range (8 * l.length)).map fun j => j == p) := by
  apply List.ext_getElem?
  intro j
  by_cases hj : j < 8 * l.length
  · rw [bitsL_get _ _ (by rw [flip_length]; exact hj), zipWith_get, bitsL_get l j hj, List.getElem?_map, List.getElem?_range hj]
    simp only [Option.bind_some, Option.map_some]
    congr 1
    unfold flip
    rw [List.getD_eq_getElem?_getD, List.getElem?_set]
    by_cases hq : p / 8 = j / 8
    · rw [if_pos hq, if_pos (by omega), hq]
      simp only [Option.getD_some]
      rw [UInt8.toNat_xor, Nat.testBit_xor]
      congr 1
      have h1 : (UInt8.ofNat (2 ^ (7 - p % 8))).toNat = 2 ^ (7 - p % 8) := by
        have : 2 ^ (7 - p % 8) ≤ 2 ^ 7 := Nat.pow_le_pow_right (by decide) (by omega)
        rw [UInt8.toNat_ofNat']
        exact Nat.mod_eq_of_lt (by omega)
      rw [h1, testBit_pow, Bool.eq_iff_iff, decide_eq_true_iff, beq_iff_eq]
      omega
    · rw [if_neg hq, ← List.getD_eq_getElem?_getD, show (j == p) = false from by rw [beq_eq_false_iff_ne]; rintro rfl; exact hq rfl, Bool.xor_false]
  · rw [List.getElem?_eq_none (by rw [bitsL_length, flip_length]; omega), List.getElem?_eq_none (by rw [List.length_zipWith, bitsL_length]; omega)]

/-- The first k bits of t turned, from a place on. -/
def turn (l : List UInt8) (at_ t : Nat) : Nat → List UInt8
  | 0 => l
  | k + 1 => if t.testBit k then flip (turn l at_ t k) (at_ + k) else turn l at_ t k
theorem turn_length (l : List UInt8) (at_ t : Nat) : ∀ k, (turn l at_ t k).length = l.length
  | 0 => rfl
  | k + 1 => by
    unfold turn
    split
    · rw [flip_length, turn_length l at_ t k]
    · exact turn_length l at_ t k
def burst (n at_ t k : Nat) : List Bool := (List.range n).map fun j => decide (at_ ≤ j) && decide (j < at_ + k) && t.testBit (j - at_)
theorem bitsL_turn (l : List UInt8) (at_ t : Nat) : ∀ k, at_ + k ≤ 8 * l.length → bitsL (turn l at_ t k) = List.zipWith (· ^^ ·) (bitsL l) (burst (8 * l.length) at_ t k)
  | 0, _ => by
    apply List.ext_getElem?
    intro j
    rw [zipWith_get]
    by_cases hj : j < 8 * l.length
    · rw [burst, List.getElem?_map, List.getElem?_range hj]
      have : (decide (at_ ≤ j) && decide (j < at_ + 0) && t.testBit (j - at_)) = false := by
        rw [Bool.and_eq_false_iff]; left
        rw [Bool.and_eq_false_iff, decide_eq_false_iff_not, decide_eq_false_iff_not]; omega
      simp only [Option.map_some, this, Bool.xor_false, turn]
      cases (bitsL l)[j]? <;> rfl
    · rw [List.getElem?_eq_none (by rw [turn, bitsL_length]; omega), List.getElem?_eq_none (l := bitsL l) (by rw [bitsL_length]; omega)]; rfl
  | k + 1, h => by
    have ih := bitsL_turn l at_ t k (by omega)
    have hlen := turn_length l at_ t k
    have step : bitsL (turn l at_ t (k + 1)) = List.zipWith (· ^^ ·) (bitsL (turn l at_ t k)) ((List.range (8 * l.length)).map fun j => t.testBit k && j == at_ + k) := by
      have e : turn l at_ t (k + 1) = if t.testBit k then flip (turn l at_ t k) (at_ + k) else turn l at_ t k := rfl
      rw [e]
      split
      · rename_i ht
        rw [bitsL_flip _ _ (by rw [hlen]; omega), hlen]
        simp [ht]
      · rename_i ht
        have ht : t.testBit k = false := by simpa using ht
        apply List.ext_getElem?
        intro j
        rw [zipWith_get]
        by_cases hj : j < 8 * l.length
        · rw [List.getElem?_map, List.getElem?_range hj]
          simp only [ht, Bool.false_and, Option.map_some, Bool.xor_false]
          cases (bitsL (turn l at_ t k))[j]? <;> rfl
        · rw [List.getElem?_eq_none (by rw [bitsL_length, hlen]; omega)]; rfl
    rw [step, ih]
    apply List.ext_getElem?
    intro j
    rw [zipWith_get, zipWith_get, zipWith_get]
    by_cases hj : j < 8 * l.length
    · rw [burst, burst, List.getElem?_map, List.getElem?_map, List.getElem?_map, List.getElem?_range hj]
      cases hb : (bitsL l)[j]? with
      | none => rfl
      | some b =>
        simp only [Option.map_some, Option.bind_some]
        congr 1
        rw [Bool.xor_assoc]
        congr 1
        by_cases h1 : j = at_ + k
        · subst h1
          simp
        · have e1 : (j == at_ + k) = false := by simpa using h1
          have e2 : decide (j < at_ + (k + 1)) = decide (j < at_ + k) := by rw [decide_eq_decide]; omega
          rw [e1, e2]; simp
    · rw [List.getElem?_eq_none (l := bitsL l) (by rw [bitsL_length]; omega)]; rfl
theorem burst_parts (n at_ t : Nat) (h : at_ + 16 ≤ n) : burst n at_ t 16 = List.replicate at_ false ++ ((List.range 16).map t.testBit ++ List.replicate (n - at_ - 16) false) := by
  apply List.ext_getElem?
  intro j
  by_cases hj : j < n
  · rw [burst, List.getElem?_map, List.getElem?_range hj]
    simp only [Option.map_some]
    by_cases h1 : j < at_
    · rw [List.getElem?_append_left (by simpa using h1), List.getElem?_replicate, if_pos h1, show decide (at_ ≤ j) = false from by simpa using h1]; rfl
    · rw [List.getElem?_append_right (by simp; omega), List.length_replicate]
      by_cases h2 : j < at_ + 16
      · rw [List.getElem?_append_left (by simp; omega), List.getElem?_map, List.getElem?_range (by omega)]
        simp [h2, show at_ ≤ j by omega]
      · rw [List.getElem?_append_right (by simp; omega), List.getElem?_replicate, if_pos (by simp; omega), show decide (j < at_ + 16) = false from by simpa using h2]
        simp
  · rw [List.getElem?_eq_none (by simp [burst]; omega), List.getElem?_eq_none (by simp; omega)]
theorem exists_bit {t : Nat} (h0 : t ≠ 0) (h : t < 65536) : true ∈ (List.range 16).map t.testBit := by
  by_cases hx : ∃ i, i < 16 ∧ t.testBit i = true
  · obtain ⟨i, hi, ht⟩ := hx
    exact List.mem_map.2 ⟨i, List.mem_range.2 hi, ht⟩
  · exfalso
    apply h0
    apply Nat.eq_of_testBit_eq
    intro i
    rw [Nat.zero_testBit]
    by_cases hi : i < 16
    · cases hb : t.testBit i
      · rfl
      · exact absurd ⟨i, hi, hb⟩ hx
    · exact Nat.testBit_lt_two_pow (Nat.lt_of_lt_of_le h (Nat.pow_le_pow_right (n := 2) (by decide) (show 16 ≤ i by omega)))
theorem crc_turn (l : List UInt8) {at_ t : Nat} (h : at_ + 16 ≤ 8 * l.length) (h0 : t ≠ 0) (ht : t < 65536) : crc (turn l at_ t 16) ≠ crc l := by
  intro he
  have h1 := crcB_xor (bitsL l) (burst (8 * l.length) at_ t 16) 0#16 0#16 (by rw [bitsL_length]; simp [burst])
  rw [BitVec.xor_zero, ← bitsL_turn l at_ t 16 h] at h1
  have h2 : crc (turn l at_ t 16) = crc l ^^^ crcB 0#16 (burst (8 * l.length) at_ t 16) := h1
  rw [he] at h2
  have h3 : crcB 0#16 (burst (8 * l.length) at_ t 16) = 0#16 := by
    have := congrArg (fun z => crc l ^^^ z) h2
    simpa [← BitVec.xor_assoc] using this.symm
  rw [burst_parts _ _ _ h, crcB_append, crcB_zeros, crcB_append] at h3
  exact crcB_burst (by simp) (exists_bit h0 ht) (crcB_zeros_inj _ _ h3)

theorem band1 (T k : Nat) (hk : k < 16) (hT : T < 65536) : ((band .u16 (shr .u16 (T : Int) k) 1) == 1) = T.testBit k := by
  have e1 : (T : Int) = ((BitVec.ofNat 16 T).toNat : Int) := by rw [BitVec.toNat_ofNat, Nat.mod_eq_of_lt hT]
  rw [e1, shr16 _ (by omega)]
  have e2 : band .u16 ((BitVec.ofNat 16 T >>> k).toNat : Int) 1 = (((BitVec.ofNat 16 T >>> k) &&& 1#16).toNat : Int) := band16 _ 1#16
  rw [e2, BitVec.toNat_and, BitVec.toNat_ushiftRight, BitVec.toNat_ofNat, Nat.mod_eq_of_lt hT]
  show ((((T >>> k) &&& 1 : Nat) : Int) == 1) = _
  rw [Nat.testBit, Nat.and_comm, Nat.one_and_eq_mod_two]
  rcases Nat.mod_two_eq_zero_or_one (T >>> k) with h | h <;> rw [h] <;> rfl
theorem shr128 (n : Nat) (hn : n < 8) : shr .u8 128 n = (((UInt8.ofNat (2 ^ (7 - n))).toNat : Nat) : Int) := by
  have : ∀ n, n < 8 → shr .u8 128 n = (((UInt8.ofNat (2 ^ (7 - n))).toNat : Nat) : Int) := by decide
  exact this n hn

/-- The loop that turns a burst. -/
theorem burst_loop (l : List UInt8) (at_ T : Nat) (hT : T < 65536) (hat : at_ + 16 ≤ 8 * l.length) (hl : l.length ≤ 1000000000000000000) {τ : Type} (K : List Int → Option τ) (q : τ)
    (hK : K ((turn l at_ T 16).map fun b => (b.toNat : Int)) = some q) (r4 p2 : Int) (hr : r4 = at_) (hp : p2 = T) :
    (iter (σ := (List Int) × Int) (ρ := (List Int)) (fun x => match x with
        | (x1, x2) =>
          bif decide (x2 < 16) then
              (
                (toShift x2).bind fun n1 =>
                  bif ((band .u16 (shr .u16 p2 n1) 1) == 1) then
                    (toShift ((IntKind.i64.wrap (r4 + x2) : Int).tmod 8)).bind fun n2 =>
                    (idx x1 (IntKind.i64.wrap ((IntKind.i64.wrap (r4 + x2) : Int).tdiv 8))).bind fun e1 =>
                    (idx x1 (IntKind.i64.wrap ((IntKind.i64.wrap (r4 + x2) : Int).tdiv 8))).bind fun e2 =>
                    some (x1.set ((IntKind.i64.wrap ((IntKind.i64.wrap (r4 + x2) : Int).tdiv 8)).toNat) (bxor .u8 e1 (shr .u8 128 n2)))
                  else
                    some x1 : Option ((List Int))).bind fun z3 =>
              some (.inl (z3, IntKind.i64.wrap (x2 + 1)))
            else
              some (.inr x1)) FUEL ((l.map fun b => (b.toNat : Int)), 0)).bind K = some q := by
  subst hr
  subst hp
  refine iter_bind (fun k => ((turn l at_ T k).map fun b => (b.toNat : Int), (k : Int))) 16 (by decide) rfl hK (fun k hk => ?_) rfl
  dsimp only
  have s1 : toShift (k : Int) = some k := by unfold toShift; rw [if_neg (by omega), Int.toNat_natCast]
  have w1 : IntKind.i64.wrap ((at_ : Int) + k) = ((at_ + k : Nat) : Int) := by rw [wrap64 (by omega) (by omega)]; omega
  have w2 : (((at_ + k : Nat) : Int)).tmod 8 = (((at_ + k) % 8 : Nat) : Int) := by rw [Int.tmod_eq_emod_of_nonneg (by omega)]; omega
  have w3 : IntKind.i64.wrap ((((at_ + k : Nat) : Int)).tdiv 8) = (((at_ + k) / 8 : Nat) : Int) := by
    rw [Int.tdiv_eq_ediv_of_nonneg (by omega), wrap64 (by omega) (by omega)]; omega
  have s2 : toShift ((((at_ + k) % 8 : Nat) : Int)) = some ((at_ + k) % 8) := by unfold toShift; rw [if_neg (by omega), Int.toNat_natCast]
  have hq : (at_ + k) / 8 < (turn l at_ T k).length := by rw [turn_length]; omega
  have g1 : idx ((turn l at_ T k).map fun b => (b.toNat : Int)) ((((at_ + k) / 8 : Nat) : Int)) = some (((turn l at_ T k).getD ((at_ + k) / 8) 0).toNat : Int) := by
    rw [idx_nat, List.getElem?_map, List.getD_eq_getElem?_getD, List.getElem?_eq_getElem hq]; rfl
  rw [show decide ((k : Int) < 16) = true from by simp; omega, ctrue, s1, obind, band1 T k hk hT, w1, w2, w3, s2, obind, g1, obind, obind, wrap64 (by omega) (by omega), shr128 _ (by omega), bxor8, Int.toNat_natCast]
  cases hb : T.testBit k with
  | false => rw [cfalse, obind]; simp [turn, hb]
  | true => rw [ctrue, obind]; simp [turn, hb, flip, List.map_set]

theorem okInt_u16 {n : Int} (h : (Lit.int .u16 n).wf = true) : 0 ≤ n ∧ n < 65536 := by
  simp [Lit.wf, IntKind.min, IntKind.max, IntKind.signed, IntKind.bits] at h
  omega
theorem one_sums : sum_Of (ByteArray.mk #[]) = some 0 ∧ sum_Of (ByteArray.mk #[97]) = some 31879 ∧ sum_Of (ByteArray.mk #[98]) = some 19684 := by
  refine ⟨?_, ?_, ?_⟩
  · rw [sum_Of_mk _ (by decide)]; rfl
  · rw [sum_Of_mk _ (by decide)]
    refine congrArg (fun n : Nat => some (n : Int)) ?_
    rw [crc_foldl]; simp only [List.foldl_cons, List.foldl_nil]; decide
  · rw [sum_Of_mk _ (by decide)]
    refine congrArg (fun n : Nat => some (n : Int)) ?_
    rw [crc_foldl]; simp only [List.foldl_cons, List.foldl_nil]; decide
theorem annalkeep_SumBursts_true (p0 : ByteArray) (p1 p2 : Int) (k0 : okStr p0) (k0_ : p0.size ≤ reachBytes) (k1 : (Lit.int .i64 p1).wf = true) (k2 : (Lit.int .u16 p2).wf = true) : annalkeep_SumBursts p0 p1 p2 = some true := by
  obtain ⟨l, rfl⟩ := exists_ofL p0
  have hl : l.length ≤ 140737488351232 := reach k0_
  have hp2 := okInt_u16 k2
  unfold annalkeep_SumBursts
  have b1 : ((0 : Int) != 0) = false := by decide
  have b2 : ((31879 : Int) == 19684) = false := by decide
  rw [one_sums.1, one_sums.2.1, one_sums.2.2]
  simp only [obind, b1, b2, cfalse]
  have hn : (ofL l).size = l.length := rfl
  have hf : fits (ofL l) = some () := by unfold fits; exact if_pos k0
  generalize (ofL l).size = n at hn ⊢
  by_cases hs : p2 = 0 ∨ (n : Int) < 2
  · rw [show ((p2 == 0) || decide ((n : Int) < 2)) = true from by simpa using hs, ctrue]
  · rw [show ((p2 == 0) || decide ((n : Int) < 2)) = false from by simpa using hs, cfalse]
    have w : IntKind.i64.wrap (IntKind.i64.wrap (8 * (n : Int)) - 15) = 8 * (n : Int) - 15 := by rw [wrap64 (n := 8 * (n : Int)) (by omega) (by omega), wrap64 (by omega) (by omega)]
    obtain ⟨r, hr, hr0, hr1⟩ := within_some p1 (n := 8 * (n : Int) - 15) (by omega) (by omega)
    rw [w, hr, obind, hf, obind, listOf_ofL]
    refine burst_loop l r.toNat p2.toNat (by omega) (by omega) (by omega) _ true ?_ r p2 (by omega) (by omega)
    rw [bytesOf_listOf, sum_Of_ofL _ (by rw [turn_length]; omega), obind, sum_Of_ofL _ (by omega), obind]
    have hne := crc_turn l (at_ := r.toNat) (t := p2.toNat) (by omega) (by omega) (by omega)
    have : ((crc (turn l r.toNat p2.toNat 16)).toNat : Int) ≠ ((crc l).toNat : Int) := fun e => hne (BitVec.eq_of_toNat_eq (by omega))
    simp [this]
end Go.Proofs.Ytgpcpllkcehheaa
