/- Plain Lean: what the functions of package dump compute. Its conditions: none. -/
import Derived.Test.YtaccejbajgmdnaaDoorRecdF
import Derived.Test.YtaccejbajgmdnaaDoorPRun
import Derived.Test.YtaccejbajgmdnaaDoorPHex
namespace Go.Proofs.YtaccejbajgmdnaaDoor
set_option linter.unusedVariables false
set_option linter.unusedSimpArgs false
variable {F : Nat} [Big F]

/-! ### Bytes and builders -/
theorem shr_hi : ∀ n : Nat, n < 256 → shr .u8 (n : Int) 4 = ((n / 16 : Nat) : Int) := by decide +kernel
theorem band_lo : ∀ n : Nat, n < 256 → band .u8 (n : Int) 15 = ((n % 16 : Nat) : Int) := by decide +kernel
theorem hex_lit : (ByteArray.mk #[48, 49, 50, 51, 52, 53, 54, 55, 56, 57, 97, 98, 99, 100, 101, 102]) = ofL hexL := rfl
theorem hex_cut {m : Nat} (h : m < 16) : sslice (ofL hexL) (m : Int) (IntKind.u8.wrap ((m : Int) + 1)) = some (ofL [hx m]) := by
  have e : IntKind.u8.wrap ((m : Int) + 1) = ((m + 1 : Nat) : Int) := by rw [wrapu8]; omega
  rw [e, sslice_ofL (by omega) (by omega) (by show ((m + 1 : Nat) : Int) ≤ 16; omega), Int.toNat_natCast, Int.toNat_natCast]
  rcases m with _|_|_|_|_|_|_|_|_|_|_|_|_|_|_|_|m <;> first | rfl | omega
theorem bgrow_ofL {a b : List UInt8} (h : a.length + b.length ≤ 140737488355328) : bgrow (ofL a) (ofL b) = some (ofL (a ++ b)) := by
  unfold bgrow
  rw [if_pos (by simpa using h), ofL_append]
theorem okB_eq (b : UInt8) : ((decide ((32 : Int) < (b.toNat : Int))) && ((decide ((b.toNat : Int) < 127)) && (((b.toNat : Int) != 37) && ((b.toNat : Int) != 95)))) = okB b := by
  unfold okB
  have e1 : ((b.toNat : Int) != 37) = !(b == 37) := by
    by_cases h : b = 37
    · subst h; rfl
    · rw [show (b == 37) = false from beq_eq_false_iff_ne.2 h]
      rw [show ((b.toNat : Int) != 37) = true from by rw [bne_iff_ne]; intro e; exact h (UInt8.toNat_inj.1 (show b.toNat = (37 : UInt8).toNat by show b.toNat = 37; omega))]
      rfl
  have e2 : ((b.toNat : Int) != 95) = !(b == 95) := by
    by_cases h : b = 95
    · subst h; rfl
    · rw [show (b == 95) = false from beq_eq_false_iff_ne.2 h]
      rw [show ((b.toNat : Int) != 95) = true from by rw [bne_iff_ne]; intro e; exact h (UInt8.toNat_inj.1 (show b.toNat = (95 : UInt8).toNat by show b.toNat = 95; omega))]
      rfl
  rw [e1, e2, show decide ((32 : Int) < (b.toNat : Int)) = decide (32 < b.toNat) from decide_eq_decide.2 (by omega), show decide ((b.toNat : Int) < 127) = decide (b.toNat < 127) from decide_eq_decide.2 (by omega)]
theorem enc_length (l : List UInt8) : (l.flatMap encB).length ≤ 3 * l.length := by
  induction l with
  | nil => simp
  | cons b l ih =>
    have := encB_length b
    simp only [List.flatMap_cons, List.length_append, List.length_cons]
    omega
/-! ### Words -/
theorem dump_word_eq (l : List UInt8) (h : l.length ≤ 1000000000) : dump_word F (ofL l) = some (ofL (wordL l)) := by
  unfold dump_word wordL
  rw [show (ByteArray.mk #[] : ByteArray) = ofL [] from rfl, seq_ofL]
  cases l with
  | nil => rfl
  | cons c l0 =>
    rw [show (c :: l0 == []) = false from rfl, cond_false, if_neg (by simp)]
    generalize hl : c :: l0 = l at h
    rw [loop_run (fun k => (ofL ((l.take k).flatMap encB), (k : Int))) l.length (r := ofL (l.flatMap encB)) (by rw [List.take_zero]; rfl) (by omega) (fun k hk => ?_) (by rw [List.take_length]; show (bif decide ((l.length : Int) < (l.length : Int)) then _ else _) = _; rw [decide_eq_false (by omega), cond_false]), Option.bind_some]
    have hb : l[k]? = some l[k] := List.getElem?_eq_getElem hk
    have hlen := enc_length (l.take k)
    have hlk : (l.take k).length ≤ k := by rw [List.length_take]; omega
    show (bif decide ((k : Int) < (l.length : Int)) then _ else _) = _
    rw [decide_eq_true (by omega), cond_true, sidx_ofL, if_pos (by omega), Int.toNat_natCast, hb, Option.bind_some, okB_eq, List.take_add_one, hb, Option.toList_some, List.flatMap_append, w64 (by omega) (by omega)]
    generalize l[k] = b
    rw [show ([b] : List UInt8).flatMap encB = encB b by simp]
    rw [show encB b = if okB b then [b] else [37, hx (b.toNat / 16), hx (b.toNat % 16)] from rfl]
    have hb256 : b.toNat < 256 := b.toNat_lt
    cases hB : okB b with
    | true =>
      rw [cond_true, if_pos rfl, show (ByteArray.mk #[b]) = ofL [b] from rfl, bgrow_ofL (by simp only [List.length_singleton]; omega), Option.bind_some, Option.bind_some, ofL_append]
      rfl
    | false =>
      have h1 : b.toNat / 16 < 16 := by have := b.toNat_lt; omega
      have h2 : b.toNat % 16 < 16 := by omega
      rw [cond_false, if_neg (by simp), hex_lit, shr_hi _ hb256, band_lo _ hb256, hex_cut h1, Option.bind_some, show (ByteArray.mk #[37]) = ofL [37] from rfl, scat_ofL (by simp), Option.bind_some, hex_cut h2, Option.bind_some, scat_ofL (by simp), Option.bind_some]
      rw [bgrow_ofL (by simp only [List.length_append, List.length_cons, List.length_nil]; omega), Option.bind_some, Option.bind_some, ofL_append]
      rfl
/-! ### Values -/
def toI (l : List UInt8) : List Int := l.map fun b => (b.toNat : Int)
theorem toI_app (a b : List UInt8) : toI a ++ toI b = toI (a ++ b) := by unfold toI; rw [List.map_append]
theorem toI_length (l : List UInt8) : (toI l).length = l.length := List.length_map ..
theorem unhx_lt (c : UInt8) : -1 ≤ unhx c ∧ unhx c < 16 := by
  have h1 := Lib.indexByte_ge hexL c
  refine ⟨h1, ?_⟩
  by_cases h : unhx c < 0
  · omega
  · obtain ⟨o, ho⟩ : ∃ o : Nat, unhx c = o := ⟨(unhx c).toNat, by omega⟩
    have := (List.getElem?_eq_some_iff.1 (Lib.indexByte_some ho).1).1
    have e : hexL.length = 16 := rfl
    omega
theorem bor_hex : ∀ a : Nat, a < 16 → ∀ b : Nat, b < 16 → IntKind.u8.wrap (bor .i64 (shl .i64 (a : Int) 4) (b : Int)) = ((a * 16 + b : Nat) : Int) := by decide +kernel
theorem dump_value_eq (l : List UInt8) (h : l.length ≤ 1000000000) : dump_value F (ofL l) = some (ofL (valueL l).1, (valueL l).2) := by
  unfold dump_value valueL
  rw [show ((ofL l).size : Int) = (l.length : Int) from rfl, show (ByteArray.mk #[95] : ByteArray) = ofL [95] from rfl, seq_ofL]
  by_cases h95 : l = [95]
  · rw [show (l == [95]) = true by simpa using h95, cond_true, if_pos h95]; rfl
  · rw [show (l == [95]) = false by simpa using h95, cond_false, if_neg h95]
    refine loop_rec (fun m s q => ∃ (k : Nat) (acc : List UInt8), k ≤ l.length ∧ acc.length ≤ k ∧ m = l.length - k ∧ s = (toI acc, (k : Int)) ∧ q = match valL (l.drop k) with | some v => (ofL (acc ++ v), true) | none => (ofL [], false)) ?_ (m := l.length) (by omega) ⟨0, [], by omega, Nat.le_refl _, rfl, rfl, ?_⟩
    · rintro m s q ⟨k, acc, hk, hacc, rfl, rfl, rfl⟩
      dsimp only
      by_cases hkl : k = l.length
      · left
        refine ⟨.inl (toI acc), by rw [decide_eq_false (by omega), cond_false], ?_⟩
        rw [hkl, List.drop_length, valL_nil]
        show some (bytesOf (toI acc), true) = some (ofL (acc ++ []), true)
        rw [List.append_nil, show toI acc = acc.map fun b => (b.toNat : Int) from rfl, bytesOf_listOf]
      · have hk' : k < l.length := by omega
        have hb : l[k]? = some l[k] := List.getElem?_eq_getElem hk'
        have hd : l.drop k = l[k] :: l.drop (k + 1) := List.drop_eq_getElem_cons hk'
        rw [decide_eq_true (by omega), cond_true, sidx_ofL, if_pos (by omega), Int.toNat_natCast, hb, Option.bind_some]
        generalize l[k] = c at hd hb
        by_cases hc : c = 37
        · subst hc
          rw [show (((37 : UInt8).toNat : Int) != 37) = false from rfl, cond_false, w64 (n := (k : Int) + 2) (by omega) (by omega)]
          by_cases h2 : l.length ≤ k + 2
          · left
            rw [decide_eq_true (by omega), cond_true, Option.bind_some]
            refine ⟨_, rfl, ?_⟩
            have hv : valL (l.drop k) = none := by
              rw [hd]
              have hlen : (l.drop (k + 1)).length ≤ 1 := by rw [List.length_drop]; omega
              match hr : l.drop (k + 1), hlen with
              | [], _ => rfl
              | [a], _ => rfl
            rw [hv]; rfl
          · rw [decide_eq_false (by omega), cond_false, w64 (n := (k : Int) + 1) (by omega) (by omega), sidx_ofL, if_pos (by omega), show ((k : Int) + 1).toNat = k + 1 by omega, sidx_ofL, if_pos (by omega), show ((k : Int) + 2).toNat = k + 2 by omega]
            have hb1 : l[k + 1]? = some l[k + 1] := List.getElem?_eq_getElem (by omega)
            have hb2 : l[k + 2]? = some l[k + 2] := List.getElem?_eq_getElem (by omega)
            have hd1 : l.drop (k + 1) = l[k + 1] :: l[k + 2] :: l.drop (k + 3) := by rw [List.drop_eq_getElem_cons (by omega), List.drop_eq_getElem_cons (show k + 1 + 1 < l.length by omega)]
            rw [hb1, hb2, Option.bind_some]
            generalize l[k + 1] = x at hd1
            generalize l[k + 2] = y at hd1
            have hix : ∀ z : UInt8, strings_IndexByte (ByteArray.mk #[48, 49, 50, 51, 52, 53, 54, 55, 56, 57, 97, 98, 99, 100, 101, 102]) (z.toNat : Int) = some (unhx z) := fun z => by
              unfold strings_IndexByte unhx
              rw [Int.toNat_natCast, show z.toNat.toUInt8 = z from UInt8.ofNat_toNat]
              rfl
            rw [hix x, Option.bind_some, Option.bind_some, hix y, Option.bind_some]
            have hv : valL (l.drop k) = if unhx x < 0 ∨ unhx y < 0 then none else (valL (l.drop (k + 3))).map (UInt8.ofNat ((unhx x).toNat * 16 + (unhx y).toNat) :: ·) := by rw [hd, hd1, valL_pct]
            rw [hv]
            by_cases hneg : unhx x < 0 ∨ unhx y < 0
            · left
              rw [if_pos hneg, show (decide (unhx x < 0) || decide (unhx y < 0)) = true by simpa using hneg, cond_true, Option.bind_some]
              exact ⟨_, rfl, rfl⟩
            · right
              rw [if_neg hneg, show (decide (unhx x < 0) || decide (unhx y < 0)) = false by simpa using hneg, cond_false]
              obtain ⟨hx0, hx1⟩ := unhx_lt x
              obtain ⟨hy0, hy1⟩ := unhx_lt y
              obtain ⟨a, ha⟩ : ∃ a : Nat, unhx x = a := ⟨(unhx x).toNat, by omega⟩
              obtain ⟨b, hb'⟩ : ∃ b : Nat, unhx y = b := ⟨(unhx y).toNat, by omega⟩
              rw [ha, hb', bor_hex a (by omega) b (by omega), Int.toNat_natCast, Int.toNat_natCast]
              rw [grow_ok (by rw [toI_length, List.length_singleton]; omega) (by rw [toI_length, List.length_singleton]; omega), Option.bind_some, Option.bind_some]
              refine ⟨l.length - (k + 3), _, by omega, rfl, k + 3, acc ++ [UInt8.ofNat (a * 16 + b)], by omega, by simp; omega, rfl, ?_, ?_⟩
              · rw [w64 (n := (k : Int) + 2 + 1) (by omega) (by omega)]
                congr 1
                rw [← toI_app]
                congr 1
                unfold toI
                rw [List.map_singleton, UInt8.toNat_ofNat', Nat.mod_eq_of_lt (by omega)]
              · cases valL (l.drop (k + 3)) with
                | none => rfl
                | some v => simp
        · right
          rw [show ((c.toNat : Int) != 37) = true from by rw [bne_iff_ne]; intro e; exact hc (UInt8.toNat_inj.1 (show c.toNat = (37 : UInt8).toNat by show c.toNat = 37; omega)), cond_true, Option.bind_some]
          rw [grow_ok (by rw [toI_length, List.length_singleton]; omega) (by rw [toI_length, List.length_singleton]; omega), Option.bind_some, Option.bind_some]
          refine ⟨l.length - (k + 1), _, by omega, rfl, k + 1, acc ++ [c], by omega, by simp; omega, rfl, ?_, ?_⟩
          · rw [w64 (by omega) (by omega), ← toI_app]; rfl
          · rw [hd, valL_ne hc]
            cases valL (l.drop (k + 1)) with
            | none => rfl
            | some v => simp
    · rw [List.drop_zero]
      cases valL l <;> rfl
/-! ### Lines -/
/-- Whether a record's numbers fit in a machine word. -/
structure Ints (e : DElem) : Prop where
  p0 : -9223372036854775808 ≤ e.key.pfs
  p1 : e.key.pfs ≤ 9223372036854775807
  o0 : -9223372036854775808 ≤ e.key.obj
  o1 : e.key.obj ≤ 9223372036854775807
  f0 : -9223372036854775808 ≤ e.key.off
  f1 : e.key.off ≤ 9223372036854775807
  m0 : -9223372036854775808 ≤ e.made
  m1 : e.made ≤ 9223372036854775807
  g0 : -9223372036854775808 ≤ e.gone
  g1 : e.gone ≤ 9223372036854775807
def numsL (e : DElem) : List UInt8 := (Lib.itoa e.key.pfs ++ [32]) ++ (Lib.itoa e.key.obj ++ [32]) ++ (Lib.itoa e.key.off ++ [32]) ++ (Lib.itoa e.made ++ [32]) ++ (Lib.itoa e.gone ++ [32])
/-- A line, without its end. -/
def lineL (e : DElem) : List UInt8 := numsL e ++ wordL e.val.data.toList
theorem numsL_length {e : DElem} (h : Ints e) : (numsL e).length ≤ 105 := by
  have h1 := itoa_length h.p0 h.p1
  have h2 := itoa_length h.o0 h.o1
  have h3 := itoa_length h.f0 h.f1
  have h4 := itoa_length h.m0 h.m1
  have h5 := itoa_length h.g0 h.g1
  unfold numsL
  simp only [List.length_append, List.length_singleton]
  omega
theorem dump_line_eq {e : DElem} (h : Ints e) (hv : e.val.size ≤ 1000000000) : dump_line F e = some (ofL (lineL e ++ [10])) := by
  have h1 := itoa_length h.p0 h.p1
  have h2 := itoa_length h.o0 h.o1
  have h3 := itoa_length h.f0 h.f1
  have h4 := itoa_length h.m0 h.m1
  have h5 := itoa_length h.g0 h.g1
  have hi : ∀ {n : Int}, -9223372036854775808 ≤ n → n ≤ 9223372036854775807 → strconv_Itoa n = some (ofL (Lib.itoa n)) := fun a b => by
    unfold strconv_Itoa
    rw [if_pos ⟨a, b⟩]; rfl
  obtain ⟨v, hve⟩ := exists_ofL e.val
  have hvl : v.length ≤ 1000000000 := by rw [hve] at hv; exact hv
  have hw := wordL_length v
  unfold dump_line lineL numsL
  rw [hve, show (ofL v).data.toList = v from List.toList_toArray, dump_word_eq v hvl, hi h.p0 h.p1, hi h.o0 h.o1, hi h.f0 h.f1, hi h.m0 h.m1, hi h.g0 h.g1, show (ByteArray.mk #[32]) = ofL [32] from rfl, show (ByteArray.mk #[10]) = ofL [10] from rfl, show (ByteArray.mk #[] : ByteArray) = ofL [] from rfl]
  generalize Lib.itoa e.key.pfs = a1 at *
  generalize Lib.itoa e.key.obj = a2 at *
  generalize Lib.itoa e.key.off = a3 at *
  generalize Lib.itoa e.made = a4 at *
  generalize Lib.itoa e.gone = a5 at *
  generalize wordL v = w at *
  have L : ∀ {a : List UInt8}, a.length ≤ 20 → (a ++ [32]).length ≤ 21 := fun h => by rw [List.length_append, List.length_singleton]; omega
  have k1 := L h1
  have k2 := L h2
  have k3 := L h3
  have k4 := L h4
  have k5 := L h5
  rw [Option.bind_some, scat_ofL (by simp; omega), Option.bind_some, bgrow_ofL (by simp only [List.length_nil]; omega), Option.bind_some,
    Option.bind_some, scat_ofL (by simp; omega), Option.bind_some, ofL_append, List.nil_append, bgrow_ofL (by omega), Option.bind_some,
    Option.bind_some, scat_ofL (by simp; omega), Option.bind_some, ofL_append, bgrow_ofL (by rw [List.length_append]; omega), Option.bind_some,
    Option.bind_some, scat_ofL (by simp; omega), Option.bind_some, ofL_append, bgrow_ofL (by rw [List.length_append, List.length_append]; omega), Option.bind_some,
    Option.bind_some, scat_ofL (by simp; omega), Option.bind_some, ofL_append, bgrow_ofL (by rw [List.length_append, List.length_append, List.length_append]; omega), Option.bind_some,
    Option.bind_some, ofL_append, scat_ofL (by simp only [List.length_append, List.length_singleton]; omega), Option.bind_some, scat_ofL (by simp only [List.length_append, List.length_singleton]; omega), Option.bind_some]
/-! ### Print -/
def linesL (l : List DElem) : List UInt8 := l.flatMap fun e => lineL e ++ [10]
theorem chk_ints {e : DElem} (h : chkE e = 0) : Ints e ∧ e.val.size ≤ 40 := by
  obtain ⟨h1, h2, h3, h4, h5⟩ := chkE_ok h
  have hk : ¬ (e.key.pfs < 0 ∨ 15 < e.key.pfs ∨ e.key.obj < 0 ∨ 1048576 < e.key.obj ∨ e.key.off < 0 ∨ 1073741824 < e.key.off) := by
    unfold chkK at h1
    split at h1
    · cases h1
    · assumption
  refine ⟨⟨?_, ?_, ?_, ?_, ?_, ?_, ?_, ?_, ?_, ?_⟩, ?_⟩ <;> omega
theorem line_length {e : DElem} (h : Ints e) : (lineL e).length ≤ 106 + 3 * e.val.size := by
  have h1 := numsL_length h
  have h2 := wordL_length e.val.data.toList
  have h3 : e.val.data.toList.length = e.val.size := Array.length_toList
  unfold lineL
  rw [List.length_append]
  omega
theorem lines_length (l : List DElem) {n : Nat} (h : ∀ e ∈ l, Ints e ∧ e.val.size ≤ n) : (linesL l).length ≤ l.length * (107 + 3 * n) := by
  induction l with
  | nil => simp [linesL]
  | cons e l ih =>
    have h1 := ih fun x hx => h x (List.mem_cons_of_mem _ hx)
    obtain ⟨h2, h3⟩ := h e List.mem_cons_self
    have h4 := line_length h2
    unfold linesL at h1 ⊢
    rw [List.flatMap_cons, List.length_append, List.length_append, show (e :: l).length = l.length + 1 from rfl, Nat.add_mul, List.length_singleton]
    omega
theorem dump_Print_eq {l : List DElem} (h : ∀ e ∈ l, Ints e ∧ e.val.size ≤ 1000000000) (hl : l.length ≤ 10000) : dump_Print F l = some (if chkR l ≠ 0 then (ofL [], chkR l) else (ofL (linesL l), 0)) := by
  unfold dump_Print
  rw [run_Check_eq, Option.bind_some]
  by_cases hc : chkR l = 0
  · rw [bne0_false hc, cond_false, if_neg (by simpa using hc), show (ByteArray.mk #[] : ByteArray) = ofL [] from rfl]
    rw [loop_run (fun k => (ofL (linesL (l.take k)), (k : Int))) l.length (r := ofL (linesL l)) (by rw [List.take_zero]; rfl) (by omega) (fun k hk => ?_) (by dsimp only; rw [List.take_length, decide_eq_false (by omega), cond_false]), Option.bind_some]
    have he : l[k]? = some l[k] := List.getElem?_eq_getElem hk
    have hm : l[k] ∈ l := List.getElem_mem hk
    obtain ⟨h1, h2⟩ := h _ hm
    dsimp only
    rw [decide_eq_true (by omega), cond_true, idx_nat', he, Option.bind_some, dump_line_eq h1 h2, Option.bind_some]
    have h3 := lines_length (l.take k) fun e he => h e (List.mem_of_mem_take he)
    have h4 : (l.take k).length ≤ 10000 := by rw [List.length_take]; omega
    have h5 := line_length h1
    have h6 : (l.take k).length * (107 + 3 * 1000000000) ≤ 10000 * (107 + 3 * 1000000000) := Nat.mul_le_mul_right _ h4
    rw [bgrow_ofL (by rw [List.length_append, List.length_singleton]; omega), Option.bind_some, w64 (by omega) (by omega), ofL_append, List.take_add_one, he]
    unfold linesL
    rw [List.flatMap_append]
    simp
  · rw [bne0_true hc, cond_true, if_pos hc]; rfl
/-! ### Records -/
def atoiD (l : List UInt8) : Int × Bool := match Lib.atoiAll l with | .ok v => (v, false) | .range => (Lib.atoiSat l, true) | _ => (0, true)
theorem strconv_Atoi_eq {l : List UInt8} (h : l.length ≤ 1000000000) : strconv_Atoi (ofL l) = some (atoiD l) := by
  unfold strconv_Atoi atoiD
  rw [if_pos (show (ofL l).size ≤ 281474976710656 by show l.length ≤ _; omega)]
  show (match Lib.atoiAll l with | .ok v => some (v, false) | .range => some (Lib.atoiSat l, true) | _ => some (0, true)) = _
  cases Lib.atoiAll l <;> rfl
theorem atoiD_bounds {l : List UInt8} (h : (atoiD l).2 = false) : -9223372036854775808 ≤ (atoiD l).1 ∧ (atoiD l).1 ≤ 9223372036854775807 := by
  unfold atoiD at h ⊢
  cases hv : Lib.atoiAll l with
  | ok v => exact Lib.atoiAll_bounds hv
  | _ => rw [hv] at h; cases h
def elem0 : DElem := ⟨⟨0, 0, 0⟩, 0, 0, ByteArray.mk #[]⟩
/-- What a line's text says, if it is one. -/
def recS (l : List UInt8) : Option DElem :=
  match pieces 32 l with
  | [a, b, c, d, e, v] =>
    if (atoiD a).2 ∨ (atoiD b).2 ∨ (atoiD c).2 ∨ (atoiD d).2 ∨ (atoiD e).2 ∨ (valueL v).2 = false then none
    else if lineL ⟨⟨(atoiD a).1, (atoiD b).1, (atoiD c).1⟩, (atoiD d).1, (atoiD e).1, ofL (valueL v).1⟩ = l then some ⟨⟨(atoiD a).1, (atoiD b).1, (atoiD c).1⟩, (atoiD d).1, (atoiD e).1, ofL (valueL v).1⟩ else none
  | _ => none
theorem pieces_length : ∀ (l : List UInt8), ∀ p ∈ pieces 32 l, p.length ≤ l.length
  | [], p, hp => by simp [pieces] at hp; simp [hp]
  | b :: l, p, hp => by
    rw [pieces] at hp
    have ih := pieces_length l
    split at hp
    · rcases List.mem_cons.1 hp with rfl | hp
      · simp
      · have := ih p hp; simp only [List.length_cons]; omega
    · cases h : pieces 32 l with
      | nil => exact absurd h (pieces_ne 32 l)
      | cons q qs =>
        rw [h] at hp ih
        rcases List.mem_cons.1 hp with rfl | hp
        · have := ih q List.mem_cons_self; simp only [List.length_cons]; omega
        · have := ih p (List.mem_cons_of_mem _ hp); simp only [List.length_cons]; omega
theorem strings_Split_eq {l : List UInt8} (h : l.length ≤ 1000000000) : strings_Split (ofL l) (ofL [32]) = some ((pieces 32 l).map ofL) := by
  unfold strings_Split
  rw [if_pos ⟨by show l.length < 4294967281; omega, by show 1 ≤ 1; omega⟩]
  congr 1
  have h1 := Lib.splitB_data (ofL [32]) 0 (Lib.countB (ofL l) (ofL [32])) (ofL l)
  have h2 : Lib.splitK (ofL [32]).data.toList 0 (Lib.countB (ofL l) (ofL [32])) (ofL l).data.toList = pieces 32 l := split_pieces 32 _ l (Nat.le_refl _)
  rw [h2] at h1
  rw [← h1, List.map_map]
  conv => lhs; rw [← List.map_id (Lib.splitB (ofL [32]) 0 (Lib.countB (ofL l) (ofL [32])) (ofL l))]
  exact List.map_congr_left fun s _ => rfl
theorem dump_record_eq {l : List UInt8} (h : l.length ≤ 2000000) : ∃ e, dump_record F (ofL l) = some (e, (recS l).isSome) ∧ ∀ r, recS l = some r → e = r := by
  unfold dump_record recS
  rw [show (ByteArray.mk #[32]) = ofL [32] from rfl, strings_Split_eq (by omega), Option.bind_some]
  have hp := pieces_length l
  match hm : pieces 32 l, hp with
  | [], _ => exact ⟨_, rfl, fun r hr => by cases hr⟩
  | [_], _ => exact ⟨_, rfl, fun r hr => by cases hr⟩
  | [_, _], _ => exact ⟨_, rfl, fun r hr => by cases hr⟩
  | [_, _, _], _ => exact ⟨_, rfl, fun r hr => by cases hr⟩
  | [_, _, _, _], _ => exact ⟨_, rfl, fun r hr => by cases hr⟩
  | [_, _, _, _, _], _ => exact ⟨_, rfl, fun r hr => by cases hr⟩
  | a :: b :: c :: d :: e :: v :: w :: ps, _ =>
    refine ⟨elem0, ?_, fun r hr => by cases hr⟩
    dsimp only
    rw [show (((((a :: b :: c :: d :: e :: v :: w :: ps).map ofL).length : Int)) != 6) = true from by rw [bne_iff_ne]; simp only [List.length_map, List.length_cons]; omega, cond_true]
    rfl
  | [a, b, c, d, e, v], hp =>
    have ha := hp a (by simp)
    have hb := hp b (by simp)
    have hc := hp c (by simp)
    have hd := hp d (by simp)
    have he := hp e (by simp)
    have hv := hp v (by simp)
    dsimp only
    rw [show (((([a, b, c, d, e, v].map ofL).length : Int)) != 6) = false from rfl, cond_false,
      show idx ([a, b, c, d, e, v].map ofL) 0 = some (ofL a) from rfl, show idx ([a, b, c, d, e, v].map ofL) 1 = some (ofL b) from rfl, show idx ([a, b, c, d, e, v].map ofL) 2 = some (ofL c) from rfl,
      show idx ([a, b, c, d, e, v].map ofL) 3 = some (ofL d) from rfl, show idx ([a, b, c, d, e, v].map ofL) 4 = some (ofL e) from rfl, show idx ([a, b, c, d, e, v].map ofL) 5 = some (ofL v) from rfl,
      Option.bind_some, strconv_Atoi_eq (l := a) (by omega), Option.bind_some]
    cases a2 : (atoiD a).2 with
    | true => rw [cond_true, if_pos (.inl rfl)]; exact ⟨_, rfl, fun r hr => by cases hr⟩
    | false =>
    rw [cond_false, Option.bind_some, strconv_Atoi_eq (l := b) (by omega), Option.bind_some]
    cases b2 : (atoiD b).2 with
    | true => rw [cond_true, if_pos (.inr (.inl rfl))]; exact ⟨_, rfl, fun r hr => by cases hr⟩
    | false =>
    rw [cond_false, Option.bind_some, strconv_Atoi_eq (l := c) (by omega), Option.bind_some]
    cases c2 : (atoiD c).2 with
    | true => rw [cond_true, if_pos (.inr (.inr (.inl rfl)))]; exact ⟨_, rfl, fun r hr => by cases hr⟩
    | false =>
    rw [cond_false, Option.bind_some, strconv_Atoi_eq (l := d) (by omega), Option.bind_some]
    cases d2 : (atoiD d).2 with
    | true => rw [cond_true, if_pos (.inr (.inr (.inr (.inl rfl))))]; exact ⟨_, rfl, fun r hr => by cases hr⟩
    | false =>
    rw [cond_false, Option.bind_some, strconv_Atoi_eq (l := e) (by omega), Option.bind_some]
    cases e2 : (atoiD e).2 with
    | true => rw [cond_true, if_pos (.inr (.inr (.inr (.inr (.inl rfl)))))]; exact ⟨_, rfl, fun r hr => by cases hr⟩
    | false =>
    rw [cond_false, Option.bind_some, dump_value_eq v (by omega), Option.bind_some]
    cases v2 : (valueL v).2 with
    | false => rw [cond_false, Option.bind_some, if_pos (by simp)]; exact ⟨_, rfl, fun r hr => by cases hr⟩
    | true =>
    have A := atoiD_bounds a2
    have B := atoiD_bounds b2
    have C := atoiD_bounds c2
    have D := atoiD_bounds d2
    have E := atoiD_bounds e2
    have hvl := valueL_length v
    rw [cond_true, if_neg (by simp), show (ByteArray.mk #[10]) = ofL [10] from rfl, scat_ofL (by simp; omega), Option.bind_some, dump_line_eq ⟨A.1, A.2, B.1, B.2, C.1, C.2, D.1, D.2, E.1, E.2⟩ (by show (valueL v).1.length ≤ _; omega), Option.bind_some, seq_ofL, Option.bind_some]
    generalize hx : (⟨⟨(atoiD a).1, (atoiD b).1, (atoiD c).1⟩, (atoiD d).1, (atoiD e).1, ofL (valueL v).1⟩ : DElem) = x
    by_cases hq : lineL x = l
    · rw [if_pos hq, hq, show (l ++ [10] == l ++ [10]) = true by simp]
      exact ⟨_, rfl, fun r hr => Option.some.inj hr⟩
    · rw [if_neg hq, show (lineL x ++ [10] == l ++ [10]) = false by rw [beq_eq_false_iff_ne]; exact fun e => hq (List.append_cancel_right e)]
      exact ⟨_, rfl, fun r hr => by cases hr⟩
theorem recS_some {l : List UInt8} {e : DElem} (h : recS l = some e) : lineL e = l ∧ Ints e ∧ e.val.size ≤ l.length := by
  unfold recS at h
  split at h
  · rename_i a b c d f v hm
    split at h
    · cases h
    · rename_i hn
      simp only [not_or, Bool.not_eq_true, Bool.not_eq_false] at hn
      split at h
      · rename_i hq
        obtain rfl := Option.some.inj h
        have A := atoiD_bounds hn.1
        have B := atoiD_bounds hn.2.1
        have C := atoiD_bounds hn.2.2.1
        have D := atoiD_bounds hn.2.2.2.1
        have E := atoiD_bounds hn.2.2.2.2.1
        refine ⟨hq, ⟨A.1, A.2, B.1, B.2, C.1, C.2, D.1, D.2, E.1, E.2⟩, ?_⟩
        have h1 := valueL_length v
        have h2 := pieces_length l v (by rw [hm]; simp)
        show (valueL v).1.length ≤ l.length
        omega
      · cases h
  · cases h
end Go.Proofs.YtaccejbajgmdnaaDoor
