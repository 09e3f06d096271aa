/- Plain Lean: numbers as bytes, frames. Its conditions: none. -/
import Derived.Test.YtjhkfonoobmecaaCodeF
import Derived.Test.YtjhkfonoobmecaaFSum
namespace Go.Proofs.Ytjhkfonoobmecaa
open Go.ChangeShapes
set_option linter.unusedVariables false
set_option linter.unusedSimpArgs false
variable {F : Nat} [Big F]

/-! ### Numbers as bytes -/
def bigL (n : Nat) : Nat → List UInt8
  | 0 => []
  | k + 1 => UInt8.ofNat (n / 256 ^ k) :: bigL n k
def valL (l : List UInt8) : Nat := l.foldl (fun n b => n * 256 + b.toNat) 0
theorem bigL_length (n : Nat) : ∀ k, (bigL n k).length = k
  | 0 => rfl
  | k + 1 => by rw [bigL, List.length_cons, bigL_length n k]
theorem foldl_val (l : List UInt8) (x : Nat) : l.foldl (fun n b => n * 256 + b.toNat) x = x * 256 ^ l.length + valL l := by
  unfold valL
  induction l generalizing x with
  | nil => simp
  | cons b l ih =>
    rw [List.foldl_cons, ih, List.foldl_cons, ih (0 * 256 + b.toNat), List.length_cons, Nat.pow_succ, Nat.zero_mul, Nat.zero_add, Nat.add_mul, Nat.mul_assoc, Nat.mul_comm 256, Nat.add_assoc]
theorem valL_cons (b : UInt8) (l : List UInt8) : valL (b :: l) = b.toNat * 256 ^ l.length + valL l := by
  show List.foldl _ (0 * 256 + b.toNat) l = _
  rw [foldl_val, Nat.zero_mul, Nat.zero_add]
theorem valL_lt : ∀ l : List UInt8, valL l < 256 ^ l.length
  | [] => by decide
  | b :: l => by
    have := valL_lt l
    have hb := b.toNat_lt
    rw [valL_cons, List.length_cons, Nat.pow_succ]
    have h1 : (b.toNat + 1) * 256 ^ l.length ≤ 256 * 256 ^ l.length := Nat.mul_le_mul_right _ (by omega)
    rw [Nat.add_mul, Nat.one_mul] at h1
    rw [Nat.mul_comm (256 ^ l.length)]
    omega
theorem valL_big (n : Nat) : ∀ k, valL (bigL n k) = n % 256 ^ k
  | 0 => by rw [Nat.pow_zero, Nat.mod_one]; rfl
  | k + 1 => by
    have h := Nat.mod_mul (x := n) (a := 256 ^ k) (b := 256)
    rw [bigL, valL_cons, bigL_length, valL_big n k, Nat.pow_succ, h, UInt8.toNat_ofNat']
    show n / 256 ^ k % 256 * 256 ^ k + n % 256 ^ k = _
    rw [Nat.mul_comm, Nat.add_comm]
theorem big_valL : ∀ (l : List UInt8) (m : Nat), bigL (m * 256 ^ l.length + valL l) l.length = l
  | [], _ => rfl
  | b :: l, m => by
    rw [List.length_cons, bigL, valL_cons]
    have hl := valL_lt l
    have e1 : m * 256 ^ (l.length + 1) + (b.toNat * 256 ^ l.length + valL l) = (m * 256 + b.toNat) * 256 ^ l.length + valL l := by
      rw [Nat.pow_succ, Nat.add_mul, Nat.mul_assoc, Nat.mul_comm 256]; omega
    rw [e1, big_valL l (m * 256 + b.toNat)]
    congr 1
    have e2 : ((m * 256 + b.toNat) * 256 ^ l.length + valL l) / 256 ^ l.length = m * 256 + b.toNat := by
      rw [Nat.mul_comm, Nat.mul_add_div (Nat.pow_pos (by decide)), Nat.div_eq_of_lt hl, Nat.add_zero]
    rw [e2]
    apply UInt8.toNat_inj.1
    rw [UInt8.toNat_ofNat']
    have := b.toNat_lt
    omega
theorem big_val (l : List UInt8) : bigL (valL l) l.length = l := by
  have := big_valL l 0
  rwa [Nat.zero_mul, Nat.zero_add] at this

theorem bor_byte (x b : Nat) (hb : b < 256) (hx : x < 36028797018963968) : bor .i64 (shl .i64 (x : Int) 8) (b : Int) = ((x * 256 + b : Nat) : Int) := by
  have e1 : shl .i64 (x : Int) 8 = ((x * 256 : Nat) : Int) := by
    show IntKind.i64.wrap ((x : Int) * 2 ^ min 8 64) = _
    have : (2 : Int) ^ min 8 64 = 256 := by decide
    rw [this, wrap64 (by omega) (by omega)]
    omega
  rw [e1]
  show IntKind.i64.wrap ((BitVec.ofInt 64 ((x * 256 : Nat) : Int) ||| BitVec.ofInt 64 (b : Int)).toNat : Int) = _
  rw [BitVec.ofInt_natCast, BitVec.ofInt_natCast, BitVec.toNat_or, BitVec.toNat_ofNat, BitVec.toNat_ofNat, Nat.mod_eq_of_lt (by omega), Nat.mod_eq_of_lt (by omega)]
  have e2 : (x * 256) ||| b = x * 256 + b := by
    have := Nat.shiftLeft_add_eq_or_of_lt (b := b) (i := 8) hb x
    rw [Nat.shiftLeft_eq] at this
    exact this.symm
  rw [e2, wrap64 (by omega) (by omega)]

theorem big_Get_ofL (l : List UInt8) (hl : l.length ≤ 7) : big_Get F (ofL l) = some ((valL l : Nat) : Int) := by
  unfold big_Get
  have bound : ∀ k, valL (l.take k) < 256 ^ 7 := fun k => Nat.lt_of_lt_of_le (valL_lt _) (Nat.pow_le_pow_right (by decide) (by rw [List.length_take]; omega))
  refine iter_bindF (fun k => (((valL (l.take k) : Nat) : Int), (k : Int))) l.length (by omega) (by simp [valL]) (r := ((valL l : Nat) : Int)) rfl (fun k hk => ?_) ?_
  · dsimp only
    have hb := bound k
    have hb1 := bound (k + 1)
    have e1 : sidx (ofL l) (k : Int) = some l[k]! := by
      rw [sidx_ofL, if_pos (by omega), Int.toNat_natCast, List.getElem?_eq_getElem hk, getElem!_pos l k hk]
    have e2 : l.take (k + 1) = l.take k ++ [l[k]!] := by
      rw [List.take_add_one, List.getElem?_eq_getElem hk, getElem!_pos l k hk]; rfl
    have e3 : valL (l.take (k + 1)) = valL (l.take k) * 256 + (l[k]!).toNat := by
      rw [e2]; unfold valL; rw [List.foldl_append]; rfl
    have hlt := (l[k]!).toNat_lt
    rw [e3] at hb1 ⊢
    have hp : (256 : Nat) ^ 7 = 72057594037927936 := by decide
    rw [hp] at hb1
    rw [show decide ((k : Int) < ((ofL l).size : Int)) = true from decide_eq_true (show (k : Int) < (l.length : Int) by omega), ctrue, e1, obind, wrap64 (by omega) (by omega), wrap64 (by omega) (by omega), bor_byte _ _ hlt (by omega)]
    simp
  · dsimp only
    rw [show decide ((l.length : Int) < ((ofL l).size : Int)) = false from decide_eq_false (show ¬ (l.length : Int) < (l.length : Int) by omega), List.take_length]
    rfl

theorem shr_byte (n : Nat) : shr .i64 (n : Int) 8 = ((n / 256 : Nat) : Int) := by
  show Int.fdiv (n : Int) (2 ^ min 8 64) = _
  have : (2 : Int) ^ min 8 64 = 256 := by decide
  rw [this, Int.fdiv_eq_ediv_of_nonneg _ (by decide), Int.natCast_ediv]; rfl
theorem u8_int (n : Nat) : IntKind.u8.wrap (n : Int) = ((UInt8.ofNat n).toNat : Int) := by
  rw [wrapu8, UInt8.toNat_ofNat']; omega
theorem big_Put_eq (n m : Nat) (hm : m ≤ 100) : big_Put F (n : Int) (m : Int) = some (ofL (bigL n m)) := by
  unfold big_Put
  rw [makes1 (by omega) (by omega), obind]
  have hlen : ((List.replicate ((m : Int).toNat) (0 : Int)).length : Int) = m := by simp
  refine iter_bindF (fun k => (List.replicate (m - k) (0 : Int) ++ (bigL n k).map (fun b => (b.toNat : Int)), ((n / 256 ^ k : Nat) : Int), (k : Int))) m (by omega) (by simp [bigL]) (r := (bigL n m).map (fun b => (b.toNat : Int))) ?_ (fun k hk => ?_) ?_
  · rw [bytesOf_listOf]
  · dsimp only
    rw [hlen, show decide ((k : Int) < (m : Int)) = true from decide_eq_true (by omega), ctrue]
    have w1 : IntKind.i64.wrap (IntKind.i64.wrap ((m : Int) - 1) - k) = ((m - k - 1 : Nat) : Int) := by
      rw [wrap64 (n := (m : Int) - 1) (by omega) (by omega), wrap64 (by omega) (by omega)]; omega
    have w2 : IntKind.i64.wrap ((k : Int) + 1) = ((k + 1 : Nat) : Int) := by rw [wrap64 (by omega) (by omega)]; rfl
    rw [w1, idx_nat, List.getElem?_append_left (by simp; omega), List.getElem?_replicate, if_pos (by omega), obind, Int.toNat_natCast, w2, shr_byte, u8_int]
    rw [List.set_append_left _ _ (by simp; omega)]
    congr 1
    congr 1
    congr 1
    · rw [show m - k = (m - k - 1) + 1 by omega, List.replicate_succ', List.set_append_right _ _ (by simp), bigL]
      simp [show m - (k + 1) = m - k - 1 by omega]
    · rw [Nat.div_div_eq_div_mul, Nat.pow_succ]
  · dsimp only
    rw [hlen, show decide ((m : Int) < (m : Int)) = false from decide_eq_false (by omega), cfalse, Nat.sub_self]
    rfl
theorem frame_two_eq (n : Nat) : frame_two (n : Int) = some (ofL (bigL n 2)) := by
  unfold frame_two
  rw [shr_byte, u8_int, u8_int]
  have := bytesOf_listOf [UInt8.ofNat (n / 256), UInt8.ofNat n]
  simp only [List.map_cons, List.map_nil] at this
  rw [this]
  simp [bigL]
theorem two_big (X : BitVec 16) : two X = bigL X.toNat 2 := by
  have h : UInt8.ofNat (X.toNat % 256) = UInt8.ofNat X.toNat := by
    apply UInt8.toNat_inj.1
    rw [UInt8.toNat_ofNat', UInt8.toNat_ofNat']; omega
  simp [two, bigL, h]
theorem frame_number_ofL (a b : UInt8) (l : List UInt8) : frame_number (ofL (a :: b :: l)) = some ((valL [a, b] : Nat) : Int) := by
  have ha := a.toNat_lt
  have hb := b.toNat_lt
  unfold frame_number
  rw [sidx_ofL, sidx_ofL]
  simp only [show (0 : Int) ≤ 0 from by decide, show (0 : Int) ≤ 1 from by decide, if_true, show (0 : Int).toNat = 0 from rfl, show (1 : Int).toNat = 1 from rfl, List.getElem?_cons_zero, List.getElem?_cons_succ, obind]
  rw [wrap64 (by omega) (by omega), wrap64 (by omega) (by omega), bor_byte _ _ hb (by omega)]
  simp [valL]

/-! ### Frames -/
def fhead (k : Nat) (B : List UInt8) : List UInt8 := UInt8.ofNat k :: (bigL B.length 2 ++ B)
def fput (k : Nat) (B : List UInt8) : List UInt8 := fhead k B ++ two (crc (fhead k B))
theorem fhead_length (k : Nat) (B : List UInt8) : (fhead k B).length = B.length + 3 := by
  rw [fhead, List.length_cons, List.length_append, bigL_length]; omega
theorem fput_length (k : Nat) (B : List UInt8) : (fput k B).length = B.length + 5 := by
  rw [fput, List.length_append, fhead_length, two_length]

theorem frame_Put_bad1 (p : DFrame) (h : p.kind < 1 ∨ 255 < p.kind) : frame_Put F p = some (ofL [], 1) := by
  have hbig : Big F := inferInstance
  unfold frame_Put
  rw [show (decide (p.kind < 1) || decide ((255 : Int) < p.kind)) = true from by simpa using h, ctrue]
  rfl
theorem frame_Put_bad2 (k : Int) (B : List UInt8) (h0 : 1 ≤ k) (h1 : k ≤ 255) (h : 3000 < B.length) : frame_Put F ⟨k, ofL B⟩ = some (ofL [], 2) := by
  have hbig : Big F := inferInstance
  unfold frame_Put
  dsimp only
  rw [show (decide (k < 1) || decide ((255 : Int) < k)) = false from by simp; omega, cfalse,
    show decide ((3000 : Int) < ((ofL B).size : Int)) = true from decide_eq_true (show (3000 : Int) < (B.length : Int) by omega), ctrue]
  rfl
theorem frame_Put_good (k : Nat) (B : List UInt8) (h0 : 1 ≤ k) (h1 : k ≤ 255) (h : B.length ≤ 3000) : frame_Put F ⟨k, ofL B⟩ = some (ofL (fput k B), 0) := by
  unfold frame_Put
  dsimp only
  have e1 : bytesOf [IntKind.u8.wrap (k : Int)] = ofL [UInt8.ofNat k] := by
    rw [u8_int]
    exact bytesOf_listOf [UInt8.ofNat k]
  have e2 : frame_two ((ofL B).size : Int) = some (ofL (bigL B.length 2)) := frame_two_eq B.length
  have e3 : scat (ofL [UInt8.ofNat k]) (ofL (bigL B.length 2)) = some (ofL ([UInt8.ofNat k] ++ bigL B.length 2)) := scat_ofL (by rw [bigL_length]; simp)
  have e4 : scat (ofL ([UInt8.ofNat k] ++ bigL B.length 2)) (ofL B) = some (ofL (fhead k B)) := by
    rw [scat_ofL (by simp [bigL_length]; omega)]
    simp [fhead]
  have e5 : sum_Of F (ofL (fhead k B)) = some ((crc (fhead k B)).toNat : Int) := sum_Of_ofL _ (by rw [fhead_length]; omega)
  have e6 : frame_two ((crc (fhead k B)).toNat : Int) = some (ofL (two (crc (fhead k B)))) := by rw [frame_two_eq, two_big]
  have e7 : scat (ofL (fhead k B)) (ofL (two (crc (fhead k B)))) = some (ofL (fput k B)) := by
    rw [scat_ofL (by rw [fhead_length, two_length]; omega)]; rfl
  have b1 : (decide ((k : Int) < 1) || decide ((255 : Int) < (k : Int))) = false := by simp; omega
  have b2 : decide ((3000 : Int) < ((ofL B).size : Int)) = false := decide_eq_false (show ¬ (3000 : Int) < (B.length : Int) by omega)
  rw [b1, cfalse, b2, cfalse, e1, e2, obind, e3, obind, e4, obind, e5, obind, e6, obind, e7, obind]

/-- What is got of a text. -/
def fget (l : List UInt8) : DFrame × Int × Int :=
  if l.length < 5 then (⟨0, ofL []⟩, 0, 7)
  else
    let n := valL ((l.drop 1).take 2)
    if l.getD 0 0 = 0 ∨ 3000 < n then (⟨0, ofL []⟩, 0, 3)
    else if l.length < n + 5 then (⟨0, ofL []⟩, 0, 7)
    else if valL ((l.drop (n + 3)).take 2) ≠ (crc (l.take (n + 3))).toNat then (⟨0, ofL []⟩, 0, 6)
    else (⟨((l.getD 0 0).toNat : Int), ofL ((l.take (n + 3)).drop 3)⟩, ((n + 5 : Nat) : Int), 0)

theorem number_of (l : List UInt8) (h : 2 ≤ l.length) : frame_number (ofL l) = some ((valL (l.take 2) : Nat) : Int) := by
  match l, h with
  | a :: b :: l, _ => exact frame_number_ofL a b l
theorem valL_two (l : List UInt8) : valL (l.take 2) < 65536 := by
  have := valL_lt (l.take 2)
  have h2 : 256 ^ (l.take 2).length ≤ 256 ^ 2 := Nat.pow_le_pow_right (by decide) (by rw [List.length_take]; omega)
  omega
theorem frame_Get_eq (l : List UInt8) (hl : l.length ≤ 9223372036854775807) : frame_Get F (ofL l) = some (fget l) := by
  unfold frame_Get fget
  by_cases h5 : l.length < 5
  · rw [show decide (((ofL l).size : Int) < 5) = true from decide_eq_true (show (l.length : Int) < 5 by omega), ctrue, if_pos h5]; rfl
  · rw [show decide (((ofL l).size : Int) < 5) = false from decide_eq_false (show ¬ (l.length : Int) < 5 by omega), cfalse, if_neg h5]
    have hs : sslice (ofL l) 1 ((ofL l).size : Int) = some (ofL (l.drop 1)) := by
      have := sslice_ofL (l := l) (lo := 1) (hi := (l.length : Int)) (by decide) (by omega) (by omega)
      rw [Int.toNat_natCast, List.take_length] at this
      exact this
    have hn := valL_two (l.drop 1)
    rw [hs, obind, number_of _ (by rw [List.length_drop]; omega), obind]
    generalize hN : valL ((l.drop 1).take 2) = n at *
    dsimp only
    have h0 : sidx (ofL l) 0 = some (l.getD 0 0) := by
      rw [sidx_ofL, if_pos (by decide), List.getD_eq_getElem?_getD]
      show l[0]? = _
      rw [List.getElem?_eq_getElem (by omega)]; rfl
    rw [h0, obind]
    have hz : ((if l.getD 0 0 = 0 ∨ 3000 < n then true else false : Bool)) = ((((l.getD 0 0).toNat : Int) == 0) || decide ((3000 : Int) < (n : Int))) := by
      have e1 : (((l.getD 0 0).toNat : Int) == 0) = decide (l.getD 0 0 = 0) := by
        rw [Bool.eq_iff_iff, beq_iff_eq, decide_eq_true_iff, ← UInt8.toNat_inj]
        exact Int.natCast_eq_zero
      have e2 : decide ((3000 : Int) < (n : Int)) = decide (3000 < n) := by rw [decide_eq_decide]; omega
      rw [e1, e2, ← Bool.decide_or]
      by_cases hP : l.getD 0 0 = 0 ∨ 3000 < n
      · rw [if_pos hP, decide_eq_true hP]
      · rw [if_neg hP, decide_eq_false hP]
    have hc : (bif (((l.getD 0 0).toNat : Int) == 0) then some true else some (decide ((3000 : Int) < (n : Int)))) = some (if l.getD 0 0 = 0 ∨ 3000 < n then true else false) := by
      rw [hz]
      cases (((l.getD 0 0).toNat : Int) == 0) <;> rfl
    rw [hc, obind]
    by_cases hb : l.getD 0 0 = 0 ∨ 3000 < n
    · rw [if_pos hb, if_pos hb, ctrue]; rfl
    · rw [if_neg hb, if_neg hb, cfalse]
      have w5 : IntKind.i64.wrap ((n : Int) + 5) = ((n + 5 : Nat) : Int) := by rw [wrap64 (by omega) (by omega)]; rfl
      have w3 : IntKind.i64.wrap ((n : Int) + 3) = ((n + 3 : Nat) : Int) := by rw [wrap64 (by omega) (by omega)]; rfl
      rw [w5, w3]
      by_cases hs5 : l.length < n + 5
      · rw [show decide (((ofL l).size : Int) < ((n + 5 : Nat) : Int)) = true from decide_eq_true (show (l.length : Int) < ((n + 5 : Nat) : Int) by omega), ctrue, if_pos hs5]; rfl
      · rw [show decide (((ofL l).size : Int) < ((n + 5 : Nat) : Int)) = false from decide_eq_false (show ¬ (l.length : Int) < ((n + 5 : Nat) : Int) by omega), cfalse, if_neg hs5]
        have s2 : sslice (ofL l) ((n + 3 : Nat) : Int) ((ofL l).size : Int) = some (ofL (l.drop (n + 3))) := by
          have := sslice_ofL (l := l) (lo := ((n + 3 : Nat) : Int)) (hi := (l.length : Int)) (by omega) (by omega) (by omega)
          rw [Int.toNat_natCast, Int.toNat_natCast, List.take_length] at this
          exact this
        have s3 : sslice (ofL l) 0 ((n + 3 : Nat) : Int) = some (ofL (l.take (n + 3))) := by
          have := sslice_ofL (l := l) (lo := 0) (hi := ((n + 3 : Nat) : Int)) (by decide) (by omega) (by omega)
          rw [Int.toNat_natCast] at this
          exact this
        have s4 : sslice (ofL l) 3 ((n + 3 : Nat) : Int) = some (ofL ((l.take (n + 3)).drop 3)) := by
          have := sslice_ofL (l := l) (lo := 3) (hi := ((n + 3 : Nat) : Int)) (by decide) (by omega) (by omega)
          rw [Int.toNat_natCast] at this
          exact this
        rw [s2, obind, number_of _ (by rw [List.length_drop]; omega), obind, s3, obind, sum_Of_ofL _ (by rw [List.length_take]; omega), obind]
        by_cases hv : valL ((l.drop (n + 3)).take 2) ≠ (crc (l.take (n + 3))).toNat
        · have : (((valL ((l.drop (n + 3)).take 2) : Nat) : Int) != ((crc (l.take (n + 3))).toNat : Int)) = true := by
            rw [bne_iff_ne]; omega
          rw [this, ctrue, if_pos hv]; rfl
        · have : (((valL ((l.drop (n + 3)).take 2) : Nat) : Int) != ((crc (l.take (n + 3))).toNat : Int)) = false := by
            rw [bne_eq_false_iff_eq]; omega
          have hlt := (l.getD 0 0).toNat_lt
          rw [this, cfalse, if_neg hv, obind, s4, obind, wrap64 (by omega) (by omega)]
theorem two_val (X : BitVec 16) : valL (two X) = X.toNat := by
  have := X.isLt
  rw [two_big, valL_big]; exact Nat.mod_eq_of_lt this
theorem head_take (k : Nat) (B more : List UInt8) : (fput k B ++ more).take (B.length + 3) = fhead k B := by
  rw [fput, List.append_assoc]
  exact List.take_left' (fhead_length k B)
theorem head_drop (k : Nat) (B more : List UInt8) : (fput k B ++ more).drop (B.length + 3) = two (crc (fhead k B)) ++ more := by
  rw [fput, List.append_assoc]
  exact List.drop_left' (fhead_length k B)
theorem head_size (k : Nat) (B more : List UInt8) : ((fput k B ++ more).drop 1).take 2 = bigL B.length 2 := by
  simp only [fput, fhead, List.cons_append, List.append_assoc, List.drop_succ_cons, List.drop_zero]
  exact List.take_left' (bigL_length _ _)
theorem size_val {B : List UInt8} (h : B.length ≤ 3000) : valL (bigL B.length 2) = B.length := by
  rw [valL_big]; exact Nat.mod_eq_of_lt (by omega)
theorem kind_val {k : Nat} (h1 : k ≤ 255) : (UInt8.ofNat k).toNat = k := by
  rw [UInt8.toNat_ofNat']; exact Nat.mod_eq_of_lt (by omega)
theorem kind_ne {k : Nat} (h0 : 1 ≤ k) (h1 : k ≤ 255) : UInt8.ofNat k ≠ 0 := by
  intro h
  have := congrArg UInt8.toNat h
  rw [kind_val h1] at this
  have h3 : (0 : UInt8).toNat = 0 := rfl
  omega
theorem head_0 (k : Nat) (B more : List UInt8) : (fput k B ++ more).getD 0 0 = UInt8.ofNat k := rfl
theorem fhead_body (k : Nat) (B : List UInt8) : (fhead k B).drop 3 = B := by
  simp [fhead, bigL]

theorem fget_fput (k : Nat) (B more : List UInt8) (h0 : 1 ≤ k) (h1 : k ≤ 255) (h : B.length ≤ 3000) : fget (fput k B ++ more) = (⟨(k : Int), ofL B⟩, ((B.length + 5 : Nat) : Int), 0) := by
  unfold fget
  have hl : (fput k B ++ more).length = B.length + 5 + more.length := by rw [List.length_append, fput_length]
  rw [if_neg (by omega), head_size, size_val h]
  dsimp only
  rw [head_0, if_neg (by rintro (h' | h'); exact kind_ne h0 h1 h'; omega), if_neg (by omega), head_drop, head_take, List.take_left' (two_length _), two_val, if_neg (by simp), fhead_body, kind_val h1]
theorem fget_short (k : Nat) (B : List UInt8) (h0 : 1 ≤ k) (h1 : k ≤ 255) (h : B.length ≤ 3000) (j : Nat) (hj : j < B.length + 5) : (fget ((fput k B).take j)).2.2 = 7 := by
  unfold fget
  have hl : ((fput k B).take j).length = j := by rw [List.length_take, fput_length]; omega
  by_cases h5 : j < 5
  · rw [if_pos (by omega)]
  · have e0 := head_size k B []
    rw [List.append_nil] at e0
    have e1 : (((fput k B).take j).drop 1).take 2 = bigL B.length 2 := by
      rw [← e0, List.drop_take, List.take_take, Nat.min_eq_left (by omega)]
    have e2 : ((fput k B).take j).getD 0 0 = UInt8.ofNat k := by
      rw [List.getD_eq_getElem?_getD, List.getElem?_take, if_pos (by omega)]; rfl
    rw [if_neg (by omega), e1, size_val h]
    dsimp only
    rw [e2, if_neg (by rintro (h' | h'); exact kind_ne h0 h1 h'; omega), if_pos (by omega)]

theorem fput_fget {l : List UInt8} (h : (fget l).2.2 = 0) : ∃ (k : Nat) (B : List UInt8), 1 ≤ k ∧ k ≤ 255 ∧ B.length ≤ 3000 ∧ B.length + 5 ≤ l.length ∧ fget l = (⟨(k : Int), ofL B⟩, ((B.length + 5 : Nat) : Int), 0) ∧ fput k B = l.take (B.length + 5) := by
  unfold fget at h ⊢
  by_cases h5 : l.length < 5
  · rw [if_pos h5] at h; cases h
  rw [if_neg h5] at h ⊢
  dsimp only at h ⊢
  generalize hn : valL ((l.drop 1).take 2) = n at h ⊢
  by_cases hb : l.getD 0 0 = 0 ∨ 3000 < n
  · rw [if_pos hb] at h; cases h
  rw [if_neg hb] at h ⊢
  by_cases hs : l.length < n + 5
  · rw [if_pos hs] at h; cases h
  rw [if_neg hs] at h ⊢
  by_cases hv : valL ((l.drop (n + 3)).take 2) ≠ (crc (l.take (n + 3))).toNat
  · rw [if_pos hv] at h; cases h
  rw [if_neg hv]
  have hv' : valL ((l.drop (n + 3)).take 2) = (crc (l.take (n + 3))).toNat := Decidable.not_not.1 hv
  have hB : ((l.take (n + 3)).drop 3).length = n := by rw [List.length_drop, List.length_take]; omega
  have h0 : (l.getD 0 0).toNat ≠ 0 := fun e => hb (.inl (UInt8.toNat_inj.1 e))
  have hlt := (l.getD 0 0).toNat_lt
  refine ⟨(l.getD 0 0).toNat, (l.take (n + 3)).drop 3, by omega, by omega, by rw [hB]; omega, by rw [hB]; omega, by rw [hB], ?_⟩
  have hhead : fhead (l.getD 0 0).toNat ((l.take (n + 3)).drop 3) = l.take (n + 3) := by
    rw [fhead, hB]
    have e1 : bigL n 2 = (l.drop 1).take 2 := by
      have := big_val ((l.drop 1).take 2)
      rw [hn, show ((l.drop 1).take 2).length = 2 by rw [List.length_take, List.length_drop]; omega] at this
      exact this
    have e2 : UInt8.ofNat (l.getD 0 0).toNat = l.getD 0 0 := by simp
    rw [e1, e2]
    have three : ∀ l : List UInt8, 3 ≤ l.length → l.getD 0 0 :: ((l.drop 1).take 2 ++ (l.take (n + 3)).drop 3) = l.take (n + 3) := fun l hl => by
      match l, hl with
      | a :: b :: c :: l, _ => simp [List.take_succ_cons]
      | [a, b], h => simp at h
      | [a], h => simp at h
      | [], h => simp at h
    exact three l (by omega)
  rw [fput, hhead, hB, two_big, ← hv']
  have e3 := big_val ((l.drop (n + 3)).take 2)
  rw [show ((l.drop (n + 3)).take 2).length = 2 by rw [List.length_take, List.length_drop]; omega] at e3
  rw [e3, show n + 5 = (n + 3) + 2 by omega]
  exact List.take_add.symm

/-- What is put, by cases. -/
theorem frame_Put_cases (p : DFrame) : (∃ e : Int, e ≠ 0 ∧ frame_Put F p = some (ofL [], e)) ∨ ∃ (k : Nat) (B : List UInt8), p = ⟨(k : Int), ofL B⟩ ∧ 1 ≤ k ∧ k ≤ 255 ∧ B.length ≤ 3000 ∧ frame_Put F p = some (ofL (fput k B), 0) := by
  obtain ⟨kind, body⟩ := p
  obtain ⟨B, rfl⟩ := exists_ofL body
  by_cases h1 : kind < 1 ∨ 255 < kind
  · exact .inl ⟨1, by decide, frame_Put_bad1 _ h1⟩
  · by_cases h2 : 3000 < B.length
    · exact .inl ⟨2, by decide, frame_Put_bad2 kind B (by omega) (by omega) h2⟩
    · obtain ⟨k, rfl⟩ : ∃ k : Nat, kind = k := ⟨kind.toNat, by omega⟩
      exact .inr ⟨k, B, rfl, by omega, by omega, by omega, frame_Put_good k B (by omega) (by omega) (by omega)⟩
theorem beq_self_frame (p : DFrame) : (p == p) = true := by simp
theorem frame_Put_3 : frame_Put F ⟨3, ByteArray.mk #[]⟩ = some (ofL (fput 3 []), 0) := frame_Put_good 3 [] (by decide) (by decide) (by decide)
theorem frame_Put_x : frame_Put F ⟨1, ByteArray.mk #[120]⟩ = some (ofL (fput 1 [120]), 0) := frame_Put_good 1 [120] (by decide) (by decide) (by decide)
theorem ne0 {e : Int} (h : e ≠ 0) : (e != 0) = true := by simpa using h
theorem ne00 : ((0 : Int) != 0) = false := by decide
theorem eq00 : ((0 : Int) == 0) = true := by decide
theorem size_eq (l : List UInt8) : ((ofL l).size : Int) = (l.length : Int) := rfl

theorem fget_one : fget [1, 0, 0, 16, 33] = (⟨0, ofL []⟩, 0, 6) := by
  have hc : (crc [1, 0, 0]).toNat = 14128 := by
    rw [crc_foldl]; simp only [List.foldl_cons, List.foldl_nil]; rw [show byte8 0#16 1 = 4129#16 from by decide, show byte8 4129#16 0 = 13105#16 from by decide, show byte8 13105#16 0 = 14128#16 from by decide]; rfl
  simp [fget, valL, hc]
theorem fget_three : fget [3, 0, 0, 0, 0] = (⟨0, ofL []⟩, 0, 6) := by
  have hc : (crc [3, 0, 0]).toNat = 22864 := by
    rw [crc_foldl]; simp only [List.foldl_cons, List.foldl_nil]; rw [show byte8 0#16 3 = 12387#16 from by decide, show byte8 12387#16 0 = 21843#16 from by decide, show byte8 21843#16 0 = 22864#16 from by decide]; rfl
  simp [fget, valL, hc]
theorem fget_bad {l : List UInt8} (h : (fget l).2.2 ≠ 0) : (fget l).2.1 = 0 ∧ (fget l).1 = ⟨0, ofL []⟩ := by
  unfold fget at h ⊢
  by_cases h5 : l.length < 5
  · rw [if_pos h5]; exact ⟨rfl, rfl⟩
  rw [if_neg h5] at h ⊢
  dsimp only at h ⊢
  generalize valL ((l.drop 1).take 2) = n at h ⊢
  by_cases hb : l.getD 0 0 = 0 ∨ 3000 < n
  · rw [if_pos hb]; exact ⟨rfl, rfl⟩
  rw [if_neg hb] at h ⊢
  by_cases hs : l.length < n + 5
  · rw [if_pos hs]; exact ⟨rfl, rfl⟩
  rw [if_neg hs] at h ⊢
  by_cases hv : valL ((l.drop (n + 3)).take 2) ≠ (crc (l.take (n + 3))).toNat
  · rw [if_pos hv]; exact ⟨rfl, rfl⟩
  rw [if_neg hv] at h
  exact absurd rfl h

end Go.Proofs.Ytjhkfonoobmecaa
