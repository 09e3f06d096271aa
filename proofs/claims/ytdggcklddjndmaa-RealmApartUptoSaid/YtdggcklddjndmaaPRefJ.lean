/- Plain Lean: what the document's own reader makes of a stream that is read. Its conditions: none. -/
import Derived.Test.YtdggcklddjndmaaRefFJ
import Derived.Test.YtdggcklddjndmaaPFeedJ
namespace Go.Proofs.Ytdggcklddjndmaa
set_option linter.unusedVariables false
set_option linter.unusedSimpArgs false
variable {F : Nat} [Big F]
theorem sidx_get {l : List UInt8} {k : Nat} (h : k < l.length) : sidx (ofL l) (k : Int) = some l[k] := by
 rw [sidx_at h, List.getD_eq_getElem?_getD, List.getElem?_eq_getElem h]; rfl
theorem slI {l : List UInt8} (a b : Nat) (i j : Int) (hi : i = a) (hj : j = b) (h : a ≤ b) (hb : b ≤ l.length) : sslice (ofL l) i j = some (ofL (sl l a b)) := by
 subst hi hj; exact sl_ofL h hb
theorem valL_snoc (l : List UInt8) (b : UInt8) : valL (l ++ [b]) = valL l * 256 + b.toNat := by
 unfold valL; rw [List.foldl_append]; rfl
theorem ref_Big_eq (l : List UInt8) (hl : l.length ≤ 7) : annalref_Big F (ofL l) = some ((valL l : Nat) : Int) := by
 unfold annalref_Big
 have hsz : ((ofL l).size : Int) = (l.length : Int) := rfl
 rw [loop_run (fun k => (((valL (l.take k) : Nat) : Int), (k : Int))) l.length (r := ((valL l : Nat) : Int)) (by simp [valL]) (by omega) ?hs ?he, Option.bind_some]
 case hs =>
  intro k hk
  have hlt := valL_lt (l.take k)
  have hp : 256 ^ (l.take k).length ≤ 256 ^ 6 := Nat.pow_le_pow_right (by decide) (by rw [List.length_take]; omega)
  have hb := l[k].toNat_lt
  dsimp only
  rw [hsz, decide_eq_true (by omega), cond_true, sidx_get hk, Option.bind_some, List.take_add_one, List.getElem?_eq_getElem hk, Option.toList_some, valL_snoc, w64 (n := 256 * _) (by omega) (by omega), w64 (n := ((l[k].toNat : Nat) : Int)) (by omega) (by omega), w64 (by omega) (by omega), w64 (by omega) (by omega)]
  congr 3; omega
 case he =>
  dsimp only
  rw [hsz, decide_eq_false (by omega), cond_false, List.take_length]
def lowB (b : Bool) : BitVec 16 := if b then 1#16 else 0#16
def ag (x : BitVec 16) (b : Bool) : BitVec 16 := stp x ^^^ lowB b
theorem stps_succ' : ∀ (k : Nat) (X : BitVec 16), stps (k + 1) X = stp (stps k X)
 | 0, _ => rfl
 | k + 1, X => stps_succ' k (stp X)
theorem stps_low (b : Bool) : stps 16 (lowB b) = stp (hi16 b) := by cases b <;> decide +kernel
theorem ag_run : ∀ (l : List Bool) (x : BitVec 16), stps 16 (l.foldl ag x) = crcB (stps 16 x) l
 | [], _ => rfl
 | b :: l, x => by
  rw [List.foldl_cons, ag_run l (ag x b)]
  show crcB (stps 16 (ag x b)) l = crcB (fd (stps 16 x) b) l
  congr 1
  unfold ag
  rw [stps_xor, stps_low]
  show stps 17 x ^^^ _ = stp (stps 16 x ^^^ hi16 b)
  rw [stp_xor, stps_succ' 16 x]
theorem ag_zeros : ∀ (n : Nat) (x : BitVec 16), (List.replicate n false).foldl ag x = stps n x
 | 0, _ => rfl
 | n + 1, x => by
  rw [List.replicate_succ, List.foldl_cons, ag_zeros n]
  show stps n (stp x ^^^ 0#16) = _
  rw [BitVec.xor_zero]; rfl
theorem ag_crc (l : List UInt8) : (bitsL l ++ List.replicate 16 false).foldl ag 0#16 = crc l := by
 rw [List.foldl_append, ag_zeros, ag_run, stps_zero]; rfl
theorem even_xor (q : Nat) : (2 * q) ^^^ 1 = 2 * q + 1 := by
 apply Nat.eq_of_testBit_eq
 intro i
 rw [Nat.testBit_xor]
 cases i with
 | zero => simp [Nat.testBit_zero, Nat.mul_mod_right]
 | succ i =>
  rw [Nat.testBit_succ, Nat.testBit_succ, Nat.testBit_succ]
  simp [show (2 * q + 1) / 2 = q by omega]
theorem ag_int (X : BitVec 16) (b : Bool) (c : Int) (hc : c = if b then 1 else 0) : (bif decide ((65536 : Int) ≤ (IntKind.i64.wrap ((IntKind.i64.wrap ((X.toNat : Int) * 2)) + c))) then
 some (bxor .i64 (IntKind.i64.wrap ((IntKind.i64.wrap ((IntKind.i64.wrap ((X.toNat : Int) * 2)) + c)) - 65536)) 4129)
 else
  some (IntKind.i64.wrap ((IntKind.i64.wrap ((X.toNat : Int) * 2)) + c)) : Option Int) = some ((ag X b).toNat : Int) := by
 have hx := X.isLt
 have hc1 : 0 ≤ c ∧ c ≤ 1 := by rw [hc]; cases b <;> simp
 rw [w64 (n := (X.toNat : Int) * 2) (by omega) (by omega), w64 (by omega) (by omega)]
 have hsh : (X <<< 1).toNat = (2 * X.toNat) % 65536 := by
  rw [BitVec.toNat_shiftLeft, Nat.shiftLeft_eq]; congr 1; omega
 have hm : ((X <<< 1) ^^^ lowB b).toNat = (2 * X.toNat) % 65536 + c.toNat := by
  rw [BitVec.toNat_xor, hsh, hc]
  obtain ⟨q, hq⟩ : ∃ q, (2 * X.toNat) % 65536 = 2 * q := ⟨(2 * X.toNat % 65536) / 2, by omega⟩
  rw [hq]
  cases b with
  | true => exact even_xor q
  | false => simp [lowB]
 by_cases h : 32768 ≤ X.toNat
 · have hmsb : X.msb = true := by rw [BitVec.msb_eq_decide]; simpa using h
   rw [decide_eq_true (by omega), cond_true, w64 (by omega) (by omega)]
   have e1 : (X.toNat : Int) * (2 : Int) + c - (65536 : Int) = Int.ofNat ((X <<< 1) ^^^ lowB b).toNat := by rw [hm]; show _ = ((((2 * X.toNat) % 65536 + c.toNat : Nat)) : Int); omega
   rw [e1, show (4129 : Int) = (((0x1021#16 : BitVec 16).toNat : Nat) : Int) from rfl, show Int.ofNat ((X <<< 1) ^^^ lowB b).toNat = ((((X <<< 1) ^^^ lowB b).toNat : Nat) : Int) from rfl, bxor64]
   unfold ag
   rw [stp_eq, hmsb]
   congr 3
   show ((X <<< 1) ^^^ lowB b) ^^^ 0x1021#16 = ((X <<< 1) ^^^ 0x1021#16) ^^^ lowB b
   rw [BitVec.xor_assoc, BitVec.xor_assoc, BitVec.xor_comm (lowB b)]
 · have hmsb : X.msb = false := by rw [BitVec.msb_eq_decide]; simpa using h
   rw [decide_eq_false (by omega), cond_false]
   unfold ag
   rw [stp_eq, hmsb]
   show _ = some ((((X <<< 1) ^^^ 0#16) ^^^ lowB b).toNat : Int)
   rw [BitVec.xor_zero, hm]
   congr 1; omega
theorem bit_int (b : UInt8) (j : Nat) (hj : j < 8) : band .i64 (IntKind.i64.wrap (shr .u8 (b.toNat : Int) (7 - j))) 1 = if b.toNat.testBit (7 - j) then 1 else 0 := by
 have : ∀ n : Nat, n < 256 → ∀ j : Nat, j < 8 → band .i64 (IntKind.i64.wrap (shr .u8 (n : Int) (7 - j))) 1 = if n.testBit (7 - j) then 1 else 0 := by decide +kernel
 exact this _ b.toNat_lt j hj
theorem ref_Sum_eq (l : List UInt8) (hl : l.length ≤ 1000000) : annalref_Sum F (ofL l) = some ((crc l).toNat : Int) := by
 unfold annalref_Sum
 have hsz : ((ofL l).size : Int) = (l.length : Int) := rfl
 have hbl := bitsL_length l
 rw [loop_run (fun k => ((((List.foldl ag 0#16 ((bitsL l ++ List.replicate 16 false).take k)).toNat : Nat) : Int), (k : Int))) (8 * l.length + 16) (r := ((crc l).toNat : Int)) (by simp) (by omega) ?hs ?he, Option.bind_some]
 case hs =>
  intro k hk
  dsimp only
  have hkl : k < (bitsL l ++ List.replicate 16 false).length := by simp; omega
  rw [hsz, w64 (n := (l.length : Int) + 2) (by omega) (by omega), w64 (n := 8 * ((l.length : Int) + 2)) (by omega) (by omega), w64 (n := 8 * (l.length : Int)) (by omega) (by omega), decide_eq_true (by omega), cond_true, List.take_add_one, List.getElem?_eq_getElem hkl, Option.toList_some, List.foldl_append]
  generalize ((bitsL l ++ List.replicate 16 false).take k).foldl ag 0#16 = X
  have hstep : ∀ (b : Bool) (c : Int), (bitsL l ++ List.replicate 16 false)[k] = b → (c = if b then 1 else 0) → ((bif decide ((65536 : Int) ≤ (IntKind.i64.wrap ((IntKind.i64.wrap ((X.toNat : Int) * 2)) + c))) then
   some (bxor .i64 (IntKind.i64.wrap ((IntKind.i64.wrap ((IntKind.i64.wrap ((X.toNat : Int) * 2)) + c)) - 65536)) 4129)
   else
    some (IntKind.i64.wrap ((IntKind.i64.wrap ((X.toNat : Int) * 2)) + c)) : Option Int).bind fun z2 => (some (.inl (z2, IntKind.i64.wrap ((k : Int) + 1))) : Option ((Int × Int) ⊕ Int))) = some (.inl ((((ag X ((bitsL l ++ List.replicate 16 false)[k])).toNat : Nat) : Int), ((k + 1 : Nat) : Int))) := fun b c hb hc => by
   rw [ag_int X b c hc, Option.bind_some, hb, w64 (by omega) (by omega)]; rfl
  by_cases hk8 : k < 8 * l.length
  · have hq : k / 8 < l.length := by omega
    have e1 : (k : Int).tdiv 8 = ((k / 8 : Nat) : Int) := by rw [Int.tdiv_eq_ediv_of_nonneg (by omega)]; omega
    have e2 : (k : Int).tmod 8 = ((k % 8 : Nat) : Int) := by rw [Int.tmod_eq_emod_of_nonneg (by omega)]; omega
    have e3 : toShift (7 - ((k % 8 : Nat) : Int)) = some (7 - k % 8) := by
     unfold toShift
     rw [if_neg (by omega)]
     congr 1; omega
    rw [decide_eq_true (by omega), cond_true, e1, w64 (n := ((k / 8 : Nat) : Int)) (by omega) (by omega), sidx_get hq, Option.bind_some, e2, w64 (n := 7 - ((k % 8 : Nat) : Int)) (by omega) (by omega), e3, Option.bind_some, bit_int _ (k % 8) (by omega), Option.bind_some]
    refine hstep (l[k / 8].toNat.testBit (7 - k % 8)) _ ?_ rfl
    have h1 := bitsL_get l k hk8
    rw [List.getElem_append_left (by omega)]
    rw [List.getElem?_eq_getElem (by omega), List.getD_eq_getElem?_getD, List.getElem?_eq_getElem hq] at h1
    exact Option.some.inj h1
  · rw [decide_eq_false (by omega), cond_false, Option.bind_some]
    refine hstep false 0 ?_ rfl
    rw [List.getElem_append_right (by omega), List.getElem_replicate]
 case he =>
  dsimp only
  rw [hsz, w64 (n := (l.length : Int) + 2) (by omega) (by omega), w64 (n := 8 * ((l.length : Int) + 2)) (by omega) (by omega), decide_eq_false (by omega), cond_false, List.take_of_length_le (by simp; omega), ag_crc]
theorem ref_Unframe_ok {l : List UInt8} (h : (fget l).2.2 = 0) (hl : l.length ≤ 2000000) : annalref_Unframe F (ofL l) = some (fget l) := by
 have hsz : ((ofL l).size : Int) = (l.length : Int) := rfl
 unfold fget at h ⊢
 unfold annalref_Unframe
 by_cases h5 : l.length < 5
 · rw [if_pos h5] at h; cases h
 rw [if_neg h5] at h ⊢
 dsimp only at h ⊢
 have e1 : (l.take 3).drop 1 = (l.drop 1).take 2 := by rw [List.drop_take]
 have hn := valL_two (l.drop 1)
 rw [hsz, decide_eq_false (by omega), cond_false, show (3 : Int) = ((3 : Nat) : Int) from rfl, show (1 : Int) = ((1 : Nat) : Int) from rfl, sl_ofL (by omega) (by omega), Option.bind_some]
 unfold sl
 rw [e1, ref_Big_eq _ (by rw [List.length_take]; omega), Option.bind_some]
 generalize valL ((l.drop 1).take 2) = n at h hn ⊢
 by_cases hk : l.getD 0 0 = 0 ∨ 3000 < n
 · rw [if_pos hk] at h; cases h
 rw [if_neg hk] at h ⊢
 have h0 : l.getD 0 0 ≠ 0 := fun e => hk (.inl e)
 have h0' : (((l.getD 0 0).toNat : Int) == 0) = false := by
  rw [beq_eq_false_iff_ne]
  intro e
  exact h0 (UInt8.toNat_inj.1 (by simpa using e))
 rw [show (0 : Int) = ((0 : Nat) : Int) from rfl, sidx_at (by omega), Option.bind_some, show ((((l.getD 0 0).toNat : Nat) : Int) == ((0 : Nat) : Int)) = false from h0', cond_false, Option.bind_some, decide_eq_false (by omega), cond_false]
 by_cases hs : l.length < n + 5
 · rw [if_pos hs] at h; cases h
 rw [if_neg hs] at h ⊢
 by_cases hcr : valL ((l.drop (n + 3)).take 2) ≠ (crc (l.take (n + 3))).toNat
 · rw [if_pos hcr] at h; cases h
 rw [if_neg hcr] at h ⊢
 have hcr' : valL ((l.drop (n + 3)).take 2) = (crc (l.take (n + 3))).toNat := by simpa using hcr
 rw [w64 (n := 5 + (n : Int)) (by omega) (by omega), decide_eq_false (by omega), cond_false]
 rw [show ((3 : Nat) : Int) + (n : Int) = ((n + 3 : Nat) : Int) by omega, show (5 : Int) + (n : Int) = ((n + 5 : Nat) : Int) by omega, w64 (n := ((n + 3 : Nat) : Int)) (by omega) (by omega), sl_ofL (by omega) (by omega), Option.bind_some]
 unfold sl
 rw [show (l.take (n + 5)).drop (n + 3) = (l.drop (n + 3)).take 2 by rw [List.drop_take]; congr 1; omega, ref_Big_eq _ (by rw [List.length_take]; omega), Option.bind_some, sl_ofL (by omega) (by omega), Option.bind_some]
 unfold sl
 rw [List.drop_zero, ref_Sum_eq _ (by rw [List.length_take]; omega), Option.bind_some, hcr', show ((((crc (l.take (n + 3))).toNat : Nat) : Int) != (((crc (l.take (n + 3))).toNat : Nat) : Int)) = false by simp, cond_false, sl_ofL (a := 0) (b := 1) (by omega) (by omega), Option.bind_some, sl_ofL (a := 3) (b := n + 3) (by omega) (by omega), Option.bind_some]
 have e2 : valL (sl l 0 1) = (l.getD 0 0).toNat := by
  match l, h5 with
  | a :: _, _ => simp [sl, valL]
 rw [ref_Big_eq _ (by rw [sl_length (by omega)]; omega), Option.bind_some, e2]
 rfl
theorem ref_Elem_ok {e : DElem} (h : chkE e = 0) : annalref_Elem e = some 0 := by
 obtain ⟨h1, h2, h3, h4, h5⟩ := chkE_ok h
 have hk : annalref_Key e.key = some 0 := by
  unfold chkK at h1
  unfold annalref_Key annalref_between
  simp only [Option.bind_some]
  split at h1
  · cases h1
  · rename_i hh
    rw [decide_eq_true (by omega), decide_eq_true (by omega), Bool.and_true, cond_true, decide_eq_true (by omega), decide_eq_true (by omega), Bool.and_true, cond_true, decide_eq_true (by omega), decide_eq_true (by omega)]; rfl
 unfold annalref_Elem
 rw [hk, Option.bind_some, bne0_false rfl, cond_false, decide_eq_false (by omega), decide_eq_false (by omega), Bool.or_false, cond_false, w64 (by omega) (by omega)]
 rcases h4 with h4 | h4
 · rw [h4, show (((0 : Int) != 0)) = false from rfl, Bool.false_and, cond_false, decide_eq_false (by omega), cond_false]
 · rw [decide_eq_false (by omega), decide_eq_false (by omega), Bool.or_false, Bool.and_false, cond_false, decide_eq_false (by omega), cond_false]
theorem ref_Unbytes_ok {l : List UInt8} (h : (cget l).2.2 = 0) (hl : l.length ≤ 1000000) : annalref_Unbytes F (ofL l) = some (cget l) := by
 have hsz : ((ofL l).size : Int) = (l.length : Int) := rfl
 unfold cget at h ⊢
 by_cases h1 : l.length < 18 ∨ l.length < 18 + (l.getD 17 0).toNat
 · rw [if_pos h1] at h; cases h
 rw [if_neg h1] at h ⊢
 by_cases h2 : chkE (gotE l) ≠ 0
 · rw [if_pos h2] at h; cases h
 rw [if_neg h2]
 have h2' : chkE (gotE l) = 0 := by simpa using h2
 have hb := (l.getD 17 0).toNat_lt
 have one : ∀ k : Nat, k < l.length → valL (sl l k (k + 1)) = (l.getD k 0).toNat := fun k hk => by
  have : sl l k (k + 1) = [l[k]] := by
   unfold sl
   rw [List.take_add_one, List.getElem?_eq_getElem hk, Option.toList_some, List.drop_append_of_le_length (by rw [List.length_take]; omega), List.drop_of_length_le (by rw [List.length_take]; omega)]; rfl
  rw [this, List.getD_eq_getElem?_getD, List.getElem?_eq_getElem hk]
  simp [valL]
 unfold annalref_Unbytes
 rw [hsz, decide_eq_false (by omega), cond_false, show (17 : Int) = ((17 : Nat) : Int) from rfl, show (18 : Int) = ((17 + 1 : Nat) : Int) from rfl, sl_ofL (by omega) (by omega), Option.bind_some, ref_Big_eq _ (by rw [sl_length (by omega)]; omega), Option.bind_some, one 17 (by omega)]
 have e18 : ((17 + 1 : Nat) : Int) + (((l.getD 17 0).toNat : Nat) : Int) = ((18 + (l.getD 17 0).toNat : Nat) : Int) := by omega
 rw [e18, w64 (by omega) (by omega), decide_eq_false (by omega), cond_false, slI 0 1 0 1 rfl rfl (by omega) (by omega), Option.bind_some, slI 1 5 1 5 rfl rfl (by omega) (by omega), Option.bind_some, slI 5 9 5 9 rfl rfl (by omega) (by omega), Option.bind_some, slI 9 13 9 13 rfl rfl (by omega) (by omega), Option.bind_some, slI 13 17 13 ((17 : Nat) : Int) rfl rfl (by omega) (by omega), Option.bind_some, sl_ofL (a := 17 + 1) (b := 18 + (l.getD 17 0).toNat) (by omega) (by omega), Option.bind_some]
 rw [ref_Big_eq _ (by rw [sl_length (by omega)]; omega), Option.bind_some, ref_Big_eq _ (by rw [sl_length (by omega)]; omega), Option.bind_some, ref_Big_eq _ (by rw [sl_length (by omega)]; omega), Option.bind_some, ref_Big_eq _ (by rw [sl_length (by omega)]; omega), Option.bind_some, ref_Big_eq _ (by rw [sl_length (by omega)]; omega), Option.bind_some]
 have hg : (DElem.mk (DKey.mk ((valL (sl l 0 1) : Nat) : Int) ((valL (sl l 1 5) : Nat) : Int) ((valL (sl l 5 9) : Nat) : Int)) ((valL (sl l 9 13) : Nat) : Int) ((valL (sl l 13 17) : Nat) : Int) (ofL (sl l (17 + 1) (18 + (l.getD 17 0).toNat)))) = gotE l := by
  rw [one 0 (by omega)]; rfl
 rw [hg, ref_Elem_ok h2', Option.bind_some, bne0_false rfl, cond_false]
theorem pw_at {α : Type} {R : α → α → Prop} {l : List α} (h : l.Pairwise R) {i j : Nat} (hij : i < j) {a b : α} (ha : l[i]? = some a) (hb : l[j]? = some b) : R a b := by
 obtain ⟨h1, rfl⟩ := List.getElem?_eq_some_iff.1 ha
 obtain ⟨h2, rfl⟩ := List.getElem?_eq_some_iff.1 hb
 exact List.pairwise_iff_getElem.1 h i j h1 h2 hij
theorem ord_ne {a b : Int} (h : a ≠ b) : ord a b ≠ 0 := by
 unfold ord
 split
 · decide
 · split
   · decide
   · omega
theorem ahead_key {a b : DKey} (h : cmpK a b < 0) : annalref_Ahead a b = some true := by
 rw [cmpK_def] at h
 unfold annalref_Ahead
 by_cases h1 : a.pfs = b.pfs
 · have e1 : ord a.pfs b.pfs = 0 := by unfold ord; rw [if_neg (by omega), if_neg (by omega)]
   rw [if_neg (by simpa using e1)] at h
   rw [show (a.pfs != b.pfs) = false by simpa using h1, cond_false]
   by_cases h2 : a.obj = b.obj
   · have e2 : ord a.obj b.obj = 0 := by unfold ord; rw [if_neg (by omega), if_neg (by omega)]
     rw [if_neg (by simpa using e2)] at h
     rw [show (a.obj != b.obj) = false by simpa using h2, cond_false, decide_eq_true (ord_lt.1 h)]
   · have e2 := ord_ne h2
     rw [if_pos e2] at h
     rw [show (a.obj != b.obj) = true by simpa using h2, cond_true, decide_eq_true (ord_lt.1 h)]
 · have e1 := ord_ne h1
   rw [if_pos e1] at h
   rw [show (a.pfs != b.pfs) = true by simpa using h1, cond_true, decide_eq_true (ord_lt.1 h)]
theorem ahead_some (a b : DKey) : ∃ r, annalref_Ahead a b = some r := by
 unfold annalref_Ahead
 cases (a.pfs != b.pfs) <;> cases (a.obj != b.obj) <;> exact ⟨_, rfl⟩
theorem ahead_spot {a b : DSpot} (h : cmpS a b < 0) : annalref_AheadSpot a b = some true := by
 unfold annalref_AheadSpot
 rcases cmpS_lt.1 h with h | ⟨h1, h2⟩
 · rw [ahead_key h, Option.bind_some, cond_true, Option.bind_some]
 · obtain ⟨r, hr⟩ := ahead_some a.key b.key
   rw [hr, Option.bind_some]
   cases r with
   | true => rw [cond_true, Option.bind_some]
   | false => rw [cond_false, show (a.key == b.key) = true by simpa using h1, cond_true, decide_eq_true h2, Option.bind_some]
theorem ref_Rising_ok {l : List DElem} (ho : l.Pairwise SpO) (hl : l.length ≤ 4000000) : annalref_Rising F l = some true := by
 unfold annalref_Rising
 rw [loop_run (s := (1 : Int)) (fun k => ((k + 1 : Nat) : Int)) (l.length - 1) (r := .inl ()) rfl (by omega) ?hs ?he, Option.bind_some]
 case hs =>
  intro k hk
  have h1 : l[k]? = some (l[k]'(by omega)) := List.getElem?_eq_getElem _
  have h2 : l[k + 1]? = some (l[k + 1]'(by omega)) := List.getElem?_eq_getElem _
  have h3 : cmpS (spotE (l[k]'(by omega))) (spotE (l[k + 1]'(by omega))) < 0 := pw_at ho (show k < k + 1 by omega) h1 h2
  rw [decide_eq_true (by omega), cond_true, w64 (n := ((k + 1 : Nat) : Int) - 1) (by omega) (by omega), show ((k + 1 : Nat) : Int) - 1 = (k : Int) by omega, idx_nat', h1, Option.bind_some]
  show ((some (spotE _)).bind _) = _
  rw [Option.bind_some, idx_nat', h2, Option.bind_some]
  show ((some (spotE _)).bind _) = _
  rw [Option.bind_some, ahead_spot h3, Option.bind_some, Bool.not_true, cond_false, w64 (by omega) (by omega)]
  rfl
 case he =>
  rw [decide_eq_false (by omega), cond_false]
theorem bigL_snoc (n : Nat) : ∀ k, bigL n (k + 1) = bigL (n / 256) k ++ [UInt8.ofNat n]
 | 0 => by simp [bigL]
 | k + 1 => by
  rw [bigL, bigL_snoc n k, bigL, List.cons_append, Nat.pow_succ, Nat.mul_comm, Nat.div_div_eq_div_mul]
theorem byte_one (n : Nat) : bytesOf [IntKind.u8.wrap ((n % 256 : Nat) : Int)] = ofL [UInt8.ofNat n] := by
 rw [u8_int, show UInt8.ofNat (n % 256) = UInt8.ofNat n by rw [← UInt8.toNat_inj, UInt8.toNat_ofNat', UInt8.toNat_ofNat']; omega]
 exact bytesOf_listOf [UInt8.ofNat n]
theorem big_rec : ∀ (k m n : Nat), k < m → k ≤ 100 → n ≤ 9223372036854775807 → fixD (σ := Int × Int) (ρ := ByteArray) (fun rf1 x => match x with
 | (x7, x8) =>
  bif (x8 == 0) then
   some (ByteArray.mk #[])
   else
    (rf1 (IntKind.i64.wrap ((x7 : Int).tdiv 256), IntKind.i64.wrap (x8 - 1))).bind fun z8 =>
    (scat z8 (bytesOf [IntKind.u8.wrap ((x7 : Int).tmod 256)])).bind fun s6 =>
    some s6) m ((n : Int), (k : Int)) = some (ofL (bigL n k)) := by
 intro k
 induction k with
 | zero =>
  intro m n hm _ _
  obtain ⟨m, rfl⟩ : ∃ q, m = q + 1 := ⟨m - 1, by omega⟩
  rfl
 | succ k ih =>
  intro m n hm hk hn
  obtain ⟨m, rfl⟩ : ∃ q, m = q + 1 := ⟨m - 1, by omega⟩
  have e1 : (n : Int).tdiv 256 = ((n / 256 : Nat) : Int) := by rw [Int.tdiv_eq_ediv_of_nonneg (by omega)]; omega
  have e2 : (n : Int).tmod 256 = ((n % 256 : Nat) : Int) := by rw [Int.tmod_eq_emod_of_nonneg (by omega)]; omega
  rw [fixD]
  dsimp only
  rw [show (((k + 1 : Nat) : Int) == 0) = false by rw [beq_eq_false_iff_ne]; omega, cond_false, e1, w64 (n := ((n / 256 : Nat) : Int)) (by omega) (by omega), w64 (n := ((k + 1 : Nat) : Int) - 1) (by omega) (by omega), show ((k + 1 : Nat) : Int) - 1 = (k : Int) by omega, ih m (n / 256) (by omega) (by omega) (by omega), Option.bind_some, e2, byte_one, scat_ofL (by rw [bigL_length]; simp; omega), Option.bind_some, bigL_snoc]
theorem ref_Span_ok {p a b : Int} (h : lookE p a b = 0) : annalref_Span p a b = some 0 := by
 obtain ⟨h1, h2, h3, h4, h5⟩ := lookE_zero.1 h
 unfold annalref_Span annalref_between
 rw [Option.bind_some, decide_eq_true h1, decide_eq_true h2, Bool.and_true, Bool.not_true, cond_false, decide_eq_false (by omega), decide_eq_false (by omega), decide_eq_false (by omega)]
 rfl
theorem ref_Last_eq (e : DElem) : annalref_Last e = some (lastE e) := by
 unfold annalref_Last lastE
 by_cases h : e.made < e.gone
 · rw [decide_eq_true h, cond_true, if_pos h]
 · rw [decide_eq_false h, cond_false, if_neg h]
theorem bcong {α β : Type} {x y : Option α} {K : α → Option β} (h : x = y) : x.bind K = y.bind K := by rw [h]
theorem spo_snoc {l : List DElem} {e : DElem} (ho : l.Pairwise SpO) (h : ∀ q, l.getLast? = some q → SpO q e) : (l ++ [e]).Pairwise SpO := by
 refine List.pairwise_append.2 ⟨ho, List.pairwise_singleton _ _, fun x hx y hy => ?_⟩
 rw [List.mem_singleton.1 hy]
 obtain ⟨q, hq, _⟩ := last_of (List.ne_nil_of_mem hx)
 have hqe := h q hq
 obtain ⟨i, hi⟩ := List.mem_iff_getElem?.1 hx
 have hil := (List.getElem?_eq_some_iff.1 hi).1
 rw [List.getLast?_eq_getElem?] at hq
 by_cases hii : i = l.length - 1
 · rw [← hii, hi] at hq
   rw [Option.some.inj hq]; exact hqe
 · exact (pw_at ho (show i < l.length - 1 by omega) hi hq).trans hqe
theorem parseP_fresh (p a b : Int) : ∀ (m : Nat) (acc : List DElem) (l : List UInt8) (P : Dstream_Parsed), parseP p a b m acc l = (P, 0) → Fresh p a b acc → P.pfs = p ∧ P.from_ = a ∧ P.to = b ∧ Fresh p a b P.elems := by
 intro m
 induction m with
 | zero => intro acc l P h; rw [parseP] at h; cases h
 | succ m ih =>
  intro acc l P h hf
  rw [parseP] at h
  split at h
  · rename_i h1; exact absurd (congrArg Prod.snd h) h1
  · split at h
    · obtain ⟨rfl, _⟩ : (⟨p, a, b, acc⟩ : Dstream_Parsed) = P ∧ True := ⟨congrArg Prod.fst h, trivial⟩
      exact ⟨rfl, rfl, rfl, hf⟩
    · split at h
      · cases h
      · rename_i h3
        have hm : moreB p a b acc (fget l).1.body.data.toList = true := by
         cases hm : moreB p a b acc (fget l).1.body.data.toList with
         | true => rfl
         | false => exact absurd (.inr hm) h3
        obtain ⟨c1, c2, c3, c4, c5, c6⟩ := moreB_iff.1 hm
        obtain ⟨_, _, _, _, _, hck⟩ := cget_ok' c1
        refine ih _ _ P h ⟨fun e he => ?_, fun e he => ?_, fun e he => ?_, spo_snoc hf.ord c6⟩
        · rcases List.mem_append.1 he with he | he
          · exact hf.ok e he
          · rw [List.mem_singleton.1 he]; exact hck
        · rcases List.mem_append.1 he with he | he
          · exact hf.pfs e he
          · rw [List.mem_singleton.1 he]; exact c3
        · rcases List.mem_append.1 he with he | he
          · exact hf.last e he
          · rw [List.mem_singleton.1 he]; exact ⟨c4, c5⟩
theorem parse_fresh {l : List UInt8} {P : Dstream_Parsed} (h : parseR l = (P, 0)) : lookE P.pfs P.from_ P.to = 0 ∧ Fresh P.pfs P.from_ P.to P.elems := by
 unfold parseR at h
 split at h
 · rename_i h1; exact absurd (congrArg Prod.snd h) h1
 · split at h
   · cases h
   · split at h
     · cases h
     · rename_i h3
       obtain ⟨e1, e2, e3, e4⟩ := parseP_fresh _ _ _ _ _ _ P h ⟨by simp, by simp, by simp, List.Pairwise.nil⟩
       rw [e1, e2, e3] at *
       exact ⟨by simpa using h3, e4⟩
theorem ref_Parse_ok {l : List UInt8} {P : Dstream_Parsed} (h : parseR l = (P, 0)) (hl : l.length ≤ 2000000) : annalref_Parse F (ofL l) = some ⟨P.pfs, P.from_, P.to, P.elems, 0⟩ := by
 obtain ⟨p, a, b, hpab, hlk, hfirst⟩ : ∃ p a b : Int, (p = P.pfs ∧ a = P.from_ ∧ b = P.to) ∧ lookE p a b = 0 ∧ (fget l).2.2 = 0 ∧ ∃ B : List UInt8, B.length = 12 ∧ (fget l).1 = ⟨1, ofL B⟩ ∧ p = ((valL (sl B 0 4) : Nat) : Int) ∧ a = ((valL (sl B 4 8) : Nat) : Int) ∧ b = ((valL (sl B 8 12) : Nat) : Int) ∧ ∃ k n : Nat, (fget l).2.1 = (n : Int) ∧ 5 ≤ n ∧ n ≤ l.length ∧ parseP p a b k [] (l.drop n) = (P, 0) := by
  have hh := h
  unfold parseR at h
  split at h
  · rename_i h1; exact absurd (congrArg Prod.snd h) h1
  · rename_i h1
    split at h
    · cases h
    · rename_i h2
      split at h
      · cases h
      · rename_i h3
        have h0 : (fget l).2.2 = 0 := by simpa using h1
        obtain ⟨k, n, B, g1, g2, g3, g4, g5, g6⟩ := fget_ok h0
        rw [g1] at h2 h3 h
        rw [g2, Int.toNat_natCast] at h
        dsimp only at h2 h3 h
        have hk : (k : Int) = 1 := by
         by_cases hk : (k : Int) = 1
         · exact hk
         · exact absurd (.inl hk) h2
        have hB : B.length = 12 := by
         by_cases hB : B.length = 12
         · exact hB
         · exact absurd (.inr hB) h2
        obtain ⟨e1, e2, e3, e4⟩ := parseP_fresh _ _ _ _ _ _ P h ⟨by simp, by simp, by simp, List.Pairwise.nil⟩
        exact ⟨_, _, _, ⟨e1.symm, e2.symm, e3.symm⟩, by simpa using h3, h0, B, hB, by rw [g1, hk], rfl, rfl, rfl, _, n, g2, by omega, g5, h⟩
 obtain ⟨rfl, rfl, rfl⟩ := hpab
 obtain ⟨h0, B, hB, hfg, hp, ha, hb, k0, n0, hn0, hn5, hnl, hrest⟩ := hfirst
 have hsz : ∀ t : List UInt8, ((ofL t).size : Int) = (t.length : Int) := fun t => rfl
 unfold annalref_Parse
 refine loop_rec (m := l.length + 2) (q := Dannalref_Parsed.mk P.pfs P.from_ P.to P.elems 0) (fun m s q => q = Dannalref_Parsed.mk P.pfs P.from_ P.to P.elems 0 ∧ ((s = ([], 0, 0, 0, ofL l, 0) ∧ m = l.length + 2) ∨ ∃ (acc : List DElem) (t : List UInt8) (k : Nat), s = (acc, P.pfs, P.from_, P.to, ofL t, ((acc.length + 1 : Nat) : Int)) ∧ parseP P.pfs P.from_ P.to k acc t = (P, 0) ∧ m = t.length + 1 ∧ acc.Pairwise SpO ∧ acc.length + t.length ≤ l.length)) ?_ (by omega) ⟨rfl, .inl ⟨rfl, rfl⟩⟩
 rintro m s q ⟨rfl, ⟨rfl, rfl⟩ | ⟨acc, t, k, rfl, hk, rfl, hacc, hlen⟩⟩
 · right
   refine ⟨(l.drop n0).length + 1, ([], P.pfs, P.from_, P.to, ofL (l.drop n0), 1), ?_, ?_, rfl, .inr ⟨[], l.drop n0, k0, rfl, hrest, rfl, List.Pairwise.nil, ?_⟩⟩
   · rw [List.length_drop]; omega
   · dsimp only
     rw [ref_Unframe_ok h0 hl, Option.bind_some, bne0_false h0, cond_false, hn0, drop_ofL hnl, Option.bind_some, show ((0 : Int) == 0) = true from rfl, cond_true, hfg]
     dsimp only
     rw [hsz, hB, show (((1 : Int) == 1) && ((((12 : Nat) : Int)) == 12)) = true from rfl, cond_true, slI 0 4 0 4 rfl rfl (by omega) (by omega), Option.bind_some, slI 4 8 4 8 rfl rfl (by omega) (by omega), Option.bind_some, slI 8 12 8 ((12 : Nat) : Int) rfl rfl (by omega) (by omega), Option.bind_some, ref_Big_eq _ (by rw [sl_length (by omega)]; omega), Option.bind_some, ref_Big_eq _ (by rw [sl_length (by omega)]; omega), Option.bind_some, ref_Big_eq _ (by rw [sl_length (by omega)]; omega), Option.bind_some, ← hp, ← ha, ← hb, ref_Span_ok hlk, Option.bind_some, Option.bind_some]
     dsimp only
     rw [show (!((0 : Int) == 0)) = false from rfl, cond_false, w64 (by omega) (by omega)]
     rfl
   · rw [List.length_nil, List.length_drop]; omega
 · cases k with
   | zero => rw [parseP] at hk; cases hk
   | succ k =>
   rw [parseP] at hk
   split at hk
   · rename_i h1; exact absurd (congrArg Prod.snd hk) h1
   rename_i h1
   have h1 : (fget t).2.2 = 0 := by simpa using h1
   obtain ⟨kd, n, B2, g1, g2, g3, g4, g5, g6⟩ := fget_ok h1
   rw [g1, g2, Int.toNat_natCast] at hk
   dsimp only at hk
   have hi0 : ((((acc.length + 1 : Nat)) : Int) == 0) = false := by rw [beq_eq_false_iff_ne]; omega
   split at hk
   · rename_i h2
     obtain ⟨h3, h4, h5⟩ := h2
     have hel : acc = P.elems := congrArg (fun q => q.1.elems) hk
     subst hel
     have hdr : t.drop n = [] := List.drop_eq_nil_iff.2 (by omega)
     left
     refine ⟨.inr ⟨P.pfs, P.from_, P.to, P.elems, 0⟩, ?_, rfl⟩
     dsimp only
     rw [ref_Unframe_ok h1 (by omega), Option.bind_some, bne0_false h1, cond_false, g1, g2, drop_ofL g5, Option.bind_some, hi0, cond_false, h3]
     dsimp only
     rw [show ((3 : Int) == 2) = false from rfl, cond_false, show ((3 : Int) == 3) = true from rfl, cond_true, hdr, show seq (ofL []) (ByteArray.mk #[]) = true from seq_self (ByteArray.mk #[]), cond_true, w64 (by omega) (by omega), show ((P.elems.length + 1 : Nat) : Int) - 1 = (P.elems.length : Int) by omega]
     have hbg := big_rec 4 F P.elems.length (by have := (inferInstance : Big F).le; omega) (by omega) (by omega)
     refine Eq.trans (bcong (bcong (bcong hbg))) ?_
     rw [Option.bind_some, Option.bind_some, h4, show foursB [P.elems.length] = bigL P.elems.length 4 by simp [foursB], seq_self, cond_true, Option.bind_some]
   · rename_i h2
     split at hk
     · cases hk
     · rename_i h3
       have hk2 : (kd : Int) = 2 := by
        by_cases hk2 : (kd : Int) = 2
        · exact hk2
        · exact absurd (.inl hk2) h3
       have hm : moreB P.pfs P.from_ P.to acc (ofL B2).data.toList = true := by
        cases hm : moreB P.pfs P.from_ P.to acc (ofL B2).data.toList with
        | true => rfl
        | false => exact absurd (.inr hm) h3
       rw [show (ofL B2).data.toList = B2 from rfl] at hm hk
       obtain ⟨c1, c2, c3, c4, c5, c6⟩ := moreB_iff.1 hm
       have hs := spo_snoc hacc c6
       right
       refine ⟨(t.drop n).length + 1, (acc ++ [(cget B2).1], P.pfs, P.from_, P.to, ofL (t.drop n), (((acc ++ [(cget B2).1]).length + 1 : Nat) : Int)), ?_, ?_, rfl, .inr ⟨_, t.drop n, k, rfl, hk, rfl, hs, ?_⟩⟩
       · rw [List.length_drop]; omega
       · dsimp only
         rw [ref_Unframe_ok h1 (by omega), Option.bind_some, bne0_false h1, cond_false, g1, g2, drop_ofL g5, Option.bind_some, hi0, cond_false, hk2]
         dsimp only
         rw [show ((2 : Int) == 2) = true from rfl, cond_true, ref_Unbytes_ok c1 (by omega), Option.bind_some, grow_ok (by simp; omega) (by simp; omega), Option.bind_some, c1, show ((0 : Int) == 0) = true from rfl, cond_true, hsz, c2, show (((B2.length : Int)) == (B2.length : Int)) = true by simp, cond_true, c3, show (P.pfs == P.pfs) = true by simp, cond_true, ref_Last_eq, Option.bind_some, decide_eq_true c4, cond_true, Option.bind_some, decide_eq_true c5, cond_true, ref_Rising_ok hs (by rw [List.length_append, List.length_singleton]; omega), Option.bind_some, Option.bind_some]
         dsimp only
         rw [Bool.not_true, cond_false, w64 (by omega) (by omega), List.length_append, List.length_singleton]
         rfl
       · rw [List.length_append, List.length_singleton, List.length_drop]; omega
end Go.Proofs.Ytdggcklddjndmaa
