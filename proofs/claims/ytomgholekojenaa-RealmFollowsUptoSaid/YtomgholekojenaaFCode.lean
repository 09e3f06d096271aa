/- Plain Lean: records as bytes. Its conditions: none. -/
import Derived.Test.YtomgholekojenaaFFrame
import Derived.Test.YtomgholekojenaaPKey
namespace Go.Proofs.Ytomgholekojenaa
open Go.ChangeShapes
set_option linter.unusedVariables false
set_option linter.unusedSimpArgs false
variable {F : Nat} [Big F]

/-- A record's bytes. -/
def eb (a b c d g : Nat) (v : List UInt8) : List UInt8 := bigL a 1 ++ (bigL b 4 ++ (bigL c 4 ++ (bigL d 4 ++ (bigL g 4 ++ (bigL v.length 1 ++ v)))))
def mkE (a b c d g : Nat) (v : List UInt8) : DElem := ⟨⟨a, b, c⟩, d, g, ofL v⟩
/-- What a right record's numbers are. -/
def Fit (a b c d g : Nat) (v : List UInt8) : Prop := a ≤ 15 ∧ b ≤ 1048576 ∧ c ≤ 1073741824 ∧ 1 ≤ d ∧ d ≤ 2147483647 ∧ (g = 0 ∨ d < g ∧ g ≤ 2147483647) ∧ v.length ≤ 40
theorem eb_length (a b c d g : Nat) (v : List UInt8) : (eb a b c d g v).length = 18 + v.length := by
  simp [eb, bigL_length]; omega
theorem fit_of {e : DElem} (h : chkE e = 0) : ∃ a b c d g v, e = mkE a b c d g v ∧ Fit a b c d g v := by
  obtain ⟨⟨pfs, obj, off⟩, made, gone, val⟩ := e
  obtain ⟨v, rfl⟩ := exists_ofL val
  obtain ⟨h1, h2, h3, h4, h5⟩ := chkE_ok h
  unfold chkK at h1
  dsimp only at h1 h2 h3 h4 h5
  split at h1
  · cases h1
  · rename_i h1'
    refine ⟨pfs.toNat, obj.toNat, off.toNat, made.toNat, gone.toNat, v, ?_, by omega, by omega, by omega, by omega, by omega, by omega, h5⟩
    unfold mkE
    congr 1
    · congr 1 <;> omega
    · omega
    · omega
theorem chk_fit {a b c d g : Nat} {v : List UInt8} (h : Fit a b c d g v) : chkE (mkE a b c d g v) = 0 := by
  obtain ⟨h1, h2, h3, h4, h5, h6, h7⟩ := h
  unfold chkE chkK mkE
  dsimp only
  rw [if_neg (by rw [if_neg (by omega)]; simp), if_neg (by omega), if_neg (show ¬ 40 < (ofL v).size from (by omega : ¬ 40 < v.length))]
theorem code_Write_bad {e : DElem} (h : chkE e ≠ 0) : code_Write F e = some (ofL [], chkE e) := by
  have hbig : Big F := inferInstance
  unfold code_Write
  rw [elem_Check_eq, obind, show (chkE e != 0) = true by simpa using h, ctrue]; rfl
theorem code_Write_good {a b c d g : Nat} {v : List UInt8} (h : Fit a b c d g v) : code_Write F (mkE a b c d g v) = some (ofL (eb a b c d g v), 0) := by
  unfold code_Write
  have hv := h.2.2.2.2.2.2
  have p : ∀ n m : Nat, m ≤ 100 → big_Put F (n : Int) (m : Int) = some (ofL (bigL n m)) := big_Put_eq
  rw [elem_Check_eq, obind, chk_fit h, show ((0 : Int) != 0) = false by decide, cfalse]
  dsimp only [mkE]
  have q1 : big_Put F (a : Int) 1 = some (ofL (bigL a 1)) := p a 1 (by decide)
  have q2 : big_Put F (b : Int) 4 = some (ofL (bigL b 4)) := p b 4 (by decide)
  have q3 : big_Put F (c : Int) 4 = some (ofL (bigL c 4)) := p c 4 (by decide)
  have q4 : big_Put F (d : Int) 4 = some (ofL (bigL d 4)) := p d 4 (by decide)
  have q5 : big_Put F (g : Int) 4 = some (ofL (bigL g 4)) := p g 4 (by decide)
  have q6 : big_Put F ((ofL v).size : Int) 1 = some (ofL (bigL v.length 1)) := p v.length 1 (by decide)
  have s : ∀ x y : List UInt8, x.length ≤ 100 → y.length ≤ 100 → scat (ofL x) (ofL y) = some (ofL (x ++ y)) := fun x y hx hy => scat_ofL (by omega)
  rw [q1, obind, q2, obind, s _ _ (by simp [bigL_length]) (by simp [bigL_length]), obind, q3, obind, s _ _ (by simp [bigL_length]) (by simp [bigL_length]), obind, q4, obind, s _ _ (by simp [bigL_length]) (by simp [bigL_length]), obind,
    q5, obind, s _ _ (by simp [bigL_length]) (by simp [bigL_length]), obind, q6, obind, s _ _ (by simp [bigL_length]) (by simp [bigL_length]), obind, s _ _ (by simp [bigL_length]) (by omega), obind]
  simp only [eb, List.append_assoc]
theorem write_cases (e : DElem) : (chkE e ≠ 0 ∧ code_Write F e = some (ofL [], chkE e)) ∨ ∃ a b c d g v, e = mkE a b c d g v ∧ Fit a b c d g v ∧ code_Write F e = some (ofL (eb a b c d g v), 0) := by
  by_cases h : chkE e = 0
  · obtain ⟨a, b, c, d, g, v, rfl, hf⟩ := fit_of h
    exact .inr ⟨a, b, c, d, g, v, rfl, hf, code_Write_good hf⟩
  · exact .inl ⟨h, code_Write_bad h⟩

/-- A piece of a text. -/
def sl (l : List UInt8) (a b : Nat) : List UInt8 := (l.take b).drop a
def zeroB : DElem := ⟨⟨0, 0, 0⟩, 0, 0, ofL []⟩
def gotE (l : List UInt8) : DElem := mkE (l.getD 0 0).toNat (valL (sl l 1 5)) (valL (sl l 5 9)) (valL (sl l 9 13)) (valL (sl l 13 17)) (sl l 18 (18 + (l.getD 17 0).toNat))
/-- What is got of a text. -/
def cget (l : List UInt8) : DElem × Int × Int :=
  if l.length < 18 ∨ l.length < 18 + (l.getD 17 0).toNat then (zeroB, 0, 7)
  else if chkE (gotE l) ≠ 0 then (zeroB, 0, 3) else (gotE l, ((18 + (l.getD 17 0).toNat : Nat) : Int), 0)
theorem sl_ofL {l : List UInt8} {a b : Nat} (h : a ≤ b) (hb : b ≤ l.length) : sslice (ofL l) (a : Int) (b : Int) = some (ofL (sl l a b)) := by
  rw [sslice_ofL (by omega) (by omega) (by omega), Int.toNat_natCast, Int.toNat_natCast]; rfl
theorem sl_length {l : List UInt8} {a b : Nat} (hb : b ≤ l.length) : (sl l a b).length = b - a := by
  rw [sl, List.length_drop, List.length_take]; omega
theorem sidx_at {l : List UInt8} {k : Nat} (h : k < l.length) : sidx (ofL l) (k : Int) = some (l.getD k 0) := by
  rw [sidx_ofL, if_pos (by omega), Int.toNat_natCast, List.getD_eq_getElem?_getD, List.getElem?_eq_getElem h]; rfl
theorem code_Get_eq (l : List UInt8) : code_Get F (ofL l) = some (cget l) := by
  unfold code_Get cget
  have hb := (l.getD 17 0).toNat_lt
  have w1 : IntKind.i64.wrap ((l.getD 17 0).toNat : Int) = ((l.getD 17 0).toNat : Int) := wrap64 (by omega) (by omega)
  have w2 : IntKind.i64.wrap (18 + ((l.getD 17 0).toNat : Int)) = ((18 + (l.getD 17 0).toNat : Nat) : Int) := by rw [wrap64 (by omega) (by omega)]; omega
  by_cases h18 : l.length < 18
  · rw [if_pos (.inl h18), decide_eq_true (show ((ofL l).size : Int) < 18 from (by omega : (l.length : Int) < 18)), ctrue, obind, ctrue]; rfl
  · have hi17 : sidx (ofL l) 17 = some (l.getD 17 0) := sidx_at (k := 17) (by omega)
    have hi0 : sidx (ofL l) 0 = some (l.getD 0 0) := sidx_at (k := 0) (by omega)
    rw [decide_eq_false (show ¬ ((ofL l).size : Int) < 18 from (by omega : ¬ (l.length : Int) < 18)), cfalse, hi17, obind, w1, w2, obind]
    by_cases hn : l.length < 18 + (l.getD 17 0).toNat
    · rw [if_pos (.inr hn), decide_eq_true (show ((ofL l).size : Int) < ((18 + (l.getD 17 0).toNat : Nat) : Int) from (by omega : (l.length : Int) < _)), ctrue]; rfl
    · have g : ∀ x y : Nat, x ≤ y → y ≤ 17 → y - x ≤ 7 → big_Get F (ofL (sl l x y)) = some ((valL (sl l x y) : Nat) : Int) := fun x y h1 h2 h3 => big_Get_ofL _ (by rw [sl_length (by omega)]; exact h3)
      have s1 : sslice (ofL l) 1 5 = some (ofL (sl l 1 5)) := sl_ofL (a := 1) (b := 5) (by decide) (by omega)
      have s2 : sslice (ofL l) 5 9 = some (ofL (sl l 5 9)) := sl_ofL (a := 5) (b := 9) (by decide) (by omega)
      have s3 : sslice (ofL l) 9 13 = some (ofL (sl l 9 13)) := sl_ofL (a := 9) (b := 13) (by decide) (by omega)
      have s4 : sslice (ofL l) 13 17 = some (ofL (sl l 13 17)) := sl_ofL (a := 13) (b := 17) (by decide) (by omega)
      have s5 : sslice (ofL l) 18 ((18 + (l.getD 17 0).toNat : Nat) : Int) = some (ofL (sl l 18 (18 + (l.getD 17 0).toNat))) := sl_ofL (a := 18) (by omega) (by omega)
      have hb0 := (l.getD 0 0).toNat_lt
      rw [if_neg (by omega), decide_eq_false (show ¬ ((ofL l).size : Int) < ((18 + (l.getD 17 0).toNat : Nat) : Int) from (by omega : ¬ (l.length : Int) < _)), cfalse, hi0, obind, w1, w2, obind, s5, obind, s1, obind, g 1 5 (by decide) (by decide) (by decide), obind, obind,
        s2, obind, g 5 9 (by decide) (by decide) (by decide), obind, obind, s3, obind, g 9 13 (by decide) (by decide) (by decide), obind, obind, s4, obind, g 13 17 (by decide) (by decide) (by decide), obind, obind, elem_Check_eq, obind,
        wrap64 (n := ((l.getD 0 0).toNat : Int)) (by omega) (by omega)]
      have hgot : DElem.mk (DKey.mk ((l.getD 0 0).toNat : Int) ((valL (sl l 1 5) : Nat) : Int) ((valL (sl l 5 9) : Nat) : Int)) ((valL (sl l 9 13) : Nat) : Int) ((valL (sl l 13 17) : Nat) : Int) (ofL (sl l 18 (18 + (l.getD 17 0).toNat))) = gotE l := rfl
      rw [hgot]
      by_cases hc : chkE (gotE l) = 0
      · rw [hc, show ((0 : Int) != 0) = false by decide, cfalse, if_neg (by simp)]
      · rw [show (chkE (gotE l) != 0) = true by simpa using hc, ctrue, if_pos hc]; rfl

theorem val_fit {n : Nat} (h : n < 4294967296) : valL (bigL n 4) = n := by rw [valL_big]; exact Nat.mod_eq_of_lt h
theorem got_eb {a b c d g : Nat} {v : List UInt8} (h : Fit a b c d g v) (more : List UInt8) : ((eb a b c d g v ++ more).getD 17 0).toNat = v.length ∧ gotE (eb a b c d g v ++ more) = mkE a b c d g v := by
  obtain ⟨h1, h2, h3, h4, h5, h6, h7⟩ := h
  have e17 : ((eb a b c d g v ++ more).getD 17 0).toNat = v.length := by
    show (UInt8.ofNat (v.length / 256 ^ 0)).toNat = _
    rw [Nat.pow_zero, Nat.div_one, UInt8.toNat_ofNat']; exact Nat.mod_eq_of_lt (by omega)
  refine ⟨e17, ?_⟩
  unfold gotE
  rw [e17]
  have e0 : ((eb a b c d g v ++ more).getD 0 0).toNat = a := by
    show (UInt8.ofNat (a / 256 ^ 0)).toNat = _
    rw [Nat.pow_zero, Nat.div_one, UInt8.toNat_ofNat']; exact Nat.mod_eq_of_lt (by omega)
  have s1 : sl (eb a b c d g v ++ more) 1 5 = bigL b 4 := rfl
  have s2 : sl (eb a b c d g v ++ more) 5 9 = bigL c 4 := rfl
  have s3 : sl (eb a b c d g v ++ more) 9 13 = bigL d 4 := rfl
  have s4 : sl (eb a b c d g v ++ more) 13 17 = bigL g 4 := rfl
  have s5 : sl (eb a b c d g v ++ more) 18 (18 + v.length) = v := by
    rw [sl, List.drop_take]
    show List.take (18 + v.length - 18) (v ++ more) = v
    rw [Nat.add_sub_cancel_left]
    exact List.take_left' rfl
  rw [e0, s1, s2, s3, s4, s5, val_fit (by omega), val_fit (by omega), val_fit (by omega), val_fit (by omega)]
theorem cget_eb {a b c d g : Nat} {v : List UInt8} (h : Fit a b c d g v) (more : List UInt8) : cget (eb a b c d g v ++ more) = (mkE a b c d g v, ((18 + v.length : Nat) : Int), 0) := by
  obtain ⟨e1, e2⟩ := got_eb h more
  unfold cget
  rw [e1, e2, if_neg (by rw [List.length_append, eb_length]; omega), chk_fit h, if_neg (by simp)]
theorem cget_short {a b c d g : Nat} {v : List UInt8} (h : Fit a b c d g v) (j : Nat) (hj : j < 18 + v.length) : (cget ((eb a b c d g v).take j)).2.2 = 7 := by
  have hl : ((eb a b c d g v).take j).length = j := by rw [List.length_take, eb_length]; omega
  unfold cget
  by_cases h18 : j < 18
  · rw [if_pos (.inl (by omega))]
  · have e1 := (got_eb h []).1
    rw [List.append_nil] at e1
    have e2 : ((eb a b c d g v).take j).getD 17 0 = (eb a b c d g v).getD 17 0 := by
      rw [List.getD_eq_getElem?_getD, List.getD_eq_getElem?_getD, List.getElem?_take, if_pos (by omega)]
    rw [if_pos (.inr (by rw [e2, e1, hl]; exact hj))]
/-- What is got is written as it was. -/
theorem eb_cget {l : List UInt8} (h : (cget l).2.2 = 0) : ∃ a b c d g v, Fit a b c d g v ∧ 18 + v.length ≤ l.length ∧ cget l = (mkE a b c d g v, ((18 + v.length : Nat) : Int), 0) ∧ eb a b c d g v = l.take (18 + v.length) := by
  unfold cget at h ⊢
  by_cases h1 : l.length < 18 ∨ l.length < 18 + (l.getD 17 0).toNat
  · rw [if_pos h1] at h; cases h
  rw [if_neg h1] at h ⊢
  by_cases h2 : chkE (gotE l) ≠ 0
  · rw [if_pos h2] at h; cases h
  rw [if_neg h2]
  have h3 : chkE (gotE l) = 0 := Decidable.not_not.1 h2
  have hfit : Fit (l.getD 0 0).toNat (valL (sl l 1 5)) (valL (sl l 5 9)) (valL (sl l 9 13)) (valL (sl l 13 17)) (sl l 18 (18 + (l.getD 17 0).toNat)) := by
    obtain ⟨a, b, c, d, g, v, he, hf⟩ := fit_of h3
    simp only [gotE, mkE, DElem.mk.injEq, DKey.mk.injEq, ofL_inj] at he
    obtain ⟨⟨ea, eb', ec⟩, ed, eg, ev⟩ := he
    rw [ev, show (l.getD 0 0).toNat = a by omega, show valL (sl l 1 5) = b by omega, show valL (sl l 5 9) = c by omega, show valL (sl l 9 13) = d by omega, show valL (sl l 13 17) = g by omega]
    exact hf
  have hn : (sl l 18 (18 + (l.getD 17 0).toNat)).length = (l.getD 17 0).toNat := by rw [sl_length (by omega)]; omega
  refine ⟨_, _, _, _, _, _, hfit, by rw [hn]; omega, by rw [hn]; rfl, ?_⟩
  rw [hn, eb, hn]
  have b1 : ∀ x : UInt8, bigL x.toNat 1 = [x] := fun x => by simp [bigL]
  have b4 : ∀ x : List UInt8, x.length = 4 → bigL (valL x) 4 = x := fun x hx => by have := big_val x; rwa [hx] at this
  rw [b1, b1, b4 _ (sl_length (by omega)), b4 _ (sl_length (by omega)), b4 _ (sl_length (by omega)), b4 _ (sl_length (by omega))]
  have ts : ∀ x y, x ≤ y → l.take y = l.take x ++ sl l x y := fun x y h => by
    have := List.take_append_drop x (l.take y)
    rw [List.take_take, Nat.min_eq_left h] at this
    exact this.symm
  have one : ∀ k, k < l.length → sl l k (k + 1) = [l.getD k 0] := fun k hk => by
    rw [sl, List.drop_take, Nat.add_sub_cancel_left, List.drop_eq_getElem_cons hk, List.getD_eq_getElem?_getD, List.getElem?_eq_getElem hk, List.take_succ_cons]
    rfl
  rw [ts 18 (18 + (l.getD 17 0).toNat) (by omega), ts 17 18 (by decide), ts 13 17 (by decide), ts 9 13 (by decide), ts 5 9 (by decide), ts 1 5 (by decide), ts 0 1 (by decide), List.take_zero, one 0 (by omega), one 17 (by omega)]
  simp only [List.nil_append, List.append_assoc]
theorem cget_bad {l : List UInt8} (h : (cget l).2.2 ≠ 0) : (cget l).2.1 = 0 ∧ (cget l).1 = zeroB := by
  unfold cget at h ⊢
  by_cases h1 : l.length < 18 ∨ l.length < 18 + (l.getD 17 0).toNat
  · rw [if_pos h1]; exact ⟨rfl, rfl⟩
  rw [if_neg h1] at h ⊢
  by_cases h2 : chkE (gotE l) ≠ 0
  · rw [if_pos h2]; exact ⟨rfl, rfl⟩
  rw [if_neg h2] at h
  exact absurd rfl h
theorem beq_self_elem (e : DElem) : (e == e) = true := by simp
theorem ne00' : ((0 : Int) != 0) = false := by decide
theorem eq00' : ((0 : Int) == 0) = true := by decide

/-! ### Many records -/
def ebE (e : DElem) : List UInt8 := eb e.key.pfs.toNat e.key.obj.toNat e.key.off.toNat e.made.toNat e.gone.toNat e.val.data.toList
theorem ebE_mk (a b c d g : Nat) (v : List UInt8) : ebE (mkE a b c d g v) = eb a b c d g v := rfl
theorem ebE_length (e : DElem) : (ebE e).length = 18 + e.val.size := eb_length _ _ _ _ _ _
theorem cget_ebE {e : DElem} (h : chkE e = 0) (more : List UInt8) : cget (ebE e ++ more) = (e, ((18 + e.val.size : Nat) : Int), 0) := by
  obtain ⟨a, b, c, d, g, v, rfl, hf⟩ := fit_of h
  exact cget_eb hf more
theorem cget_ebE_short {e : DElem} (h : chkE e = 0) (j : Nat) (hj : j < 18 + e.val.size) : (cget ((ebE e).take j)).2.2 = 7 := by
  obtain ⟨a, b, c, d, g, v, rfl, hf⟩ := fit_of h
  exact cget_short hf j hj
theorem code_Write_eq (e : DElem) : code_Write F e = some (if chkE e = 0 then (ofL (ebE e), 0) else (ofL [], chkE e)) := by
  by_cases h : chkE e = 0
  · rw [if_pos h]
    obtain ⟨a, b, c, d, g, v, rfl, hf⟩ := fit_of h
    exact code_Write_good hf
  · rw [if_neg h]; exact code_Write_bad h
theorem grow_some' {α : Type} {b : Nat} {l m : List α} (h : (l.length + m.length) * b ≤ 140737488355328) (hm : l.length + m.length ≤ maxLen) : grow b l m = some (l ++ m) := by
  unfold grow; rw [if_pos ⟨h, hm⟩]
theorem flatMap_drop {l : List DElem} {k : Nat} (hk : k < l.length) : (l.drop k).flatMap ebE = ebE l[k] ++ (l.drop (k + 1)).flatMap ebE := by
  rw [List.drop_eq_getElem_cons hk, List.flatMap_cons]
theorem chk_one (n : Nat) (v : List UInt8) (hn : n ≤ 1073741824) (hv : v.length ≤ 40) : chkE ⟨⟨0, 0, n⟩, 1, 0, ofL v⟩ = 0 :=
  chk_fit (a := 0) (b := 0) (c := n) (d := 1) (g := 0) (v := v) ⟨by omega, by omega, hn, by omega, by omega, .inl rfl, hv⟩
theorem val_len {e : DElem} (h : chkE e = 0) : e.val.size ≤ 40 := (chkE_ok h).2.2.2.2
theorem bsize (l : List UInt8) : ((ofL l).size : Int) = (l.length : Int) := rfl

/-! ### The order of bytes -/
theorem cmpB_big : ∀ (k a b : Nat) (x y : List UInt8), Lib.compareBytes (bigL a k ++ x) (bigL b k ++ y) = if a % 256 ^ k < b % 256 ^ k then -1 else if b % 256 ^ k < a % 256 ^ k then 1 else Lib.compareBytes x y
  | 0, a, b, x, y => by simp [bigL, Nat.mod_one]
  | k + 1, a, b, x, y => by
    have hA := Nat.mod_mul (x := a) (a := 256 ^ k) (b := 256)
    have hB := Nat.mod_mul (x := b) (a := 256 ^ k) (b := 256)
    have la := Nat.mod_lt a (show 0 < 256 ^ k from Nat.pow_pos (by decide))
    have lb := Nat.mod_lt b (show 0 < 256 ^ k from Nat.pow_pos (by decide))
    rw [bigL, bigL, List.cons_append, List.cons_append, Lib.compareBytes, cmpB_big k, Nat.pow_succ, hA, hB]
    have ua : (UInt8.ofNat (a / 256 ^ k)).toNat = a / 256 ^ k % 256 := UInt8.toNat_ofNat'
    have ub : (UInt8.ofNat (b / 256 ^ k)).toNat = b / 256 ^ k % 256 := UInt8.toNat_ofNat'
    generalize a / 256 ^ k % 256 = ha at *
    generalize b / 256 ^ k % 256 = hb at *
    generalize a % 256 ^ k = ra at *
    generalize b % 256 ^ k = rb at *
    generalize 256 ^ k = P at *
    have step : ∀ u v : Nat, u < v → ∀ r s : Nat, r < P → r + P * u < s + P * v := fun u v huv r s hr => by
      have : P * (u + 1) ≤ P * v := Nat.mul_le_mul_left P huv
      rw [Nat.mul_add, Nat.mul_one] at this
      omega
    by_cases h1 : ha < hb
    · rw [if_pos (UInt8.lt_iff_toNat_lt.2 (by rw [ua, ub]; exact h1)), if_pos (step _ _ h1 _ _ la)]
    · by_cases h2 : hb < ha
      · have s2 := step _ _ h2 rb ra lb
        rw [if_neg (fun h => by have := UInt8.lt_iff_toNat_lt.1 h; omega), if_pos (UInt8.lt_iff_toNat_lt.2 (by rw [ua, ub]; exact h2)), if_neg (by omega), if_pos s2]
      · have he : ha = hb := by omega
        subst he
        rw [if_neg (fun h => by have := UInt8.lt_iff_toNat_lt.1 h; omega), if_neg (fun h => by have := UInt8.lt_iff_toNat_lt.1 h; omega)]
        by_cases h3 : ra < rb
        · rw [if_pos h3, if_pos (by omega)]
        · by_cases h4 : rb < ra
          · rw [if_neg h3, if_pos h4, if_neg (by omega), if_pos (by omega)]
          · rw [if_neg h3, if_neg h4, if_neg (by omega), if_neg (by omega)]
theorem ebE_take (a b c d g : Nat) (v : List UInt8) : (eb a b c d g v).take 13 = bigL a 1 ++ (bigL b 4 ++ (bigL c 4 ++ (bigL d 4 ++ []))) := rfl
theorem scmp_spots {a b c d g a' b' c' d' g' : Nat} {v v' : List UInt8} (h : Fit a b c d g v) (h' : Fit a' b' c' d' g' v') :
    scmp (ofL ((eb a b c d g v).take 13)) (ofL ((eb a' b' c' d' g' v').take 13)) = cmpS ⟨⟨a, b, c⟩, d⟩ ⟨⟨a', b', c'⟩, d'⟩ := by
  obtain ⟨h1, h2, h3, h4, h5, h6, h7⟩ := h
  obtain ⟨h1', h2', h3', h4', h5', h6', h7'⟩ := h'
  show Lib.compareBytes ((eb a b c d g v).take 13) ((eb a' b' c' d' g' v').take 13) = _
  have p1 : (256 : Nat) ^ 1 = 256 := by decide
  have p4 : (256 : Nat) ^ 4 = 4294967296 := by decide
  rw [ebE_take, ebE_take, cmpB_big, cmpB_big, cmpB_big, cmpB_big, cmpS_def, cmpK_def, p1, p4]
  rw [Nat.mod_eq_of_lt (a := a) (by omega), Nat.mod_eq_of_lt (a := a') (by omega), Nat.mod_eq_of_lt (a := b) (by omega), Nat.mod_eq_of_lt (a := b') (by omega), Nat.mod_eq_of_lt (a := c) (by omega), Nat.mod_eq_of_lt (a := c') (by omega),
    Nat.mod_eq_of_lt (a := d) (by omega), Nat.mod_eq_of_lt (a := d') (by omega)]
  dsimp only
  have o : ∀ x y : Nat, ord (x : Int) (y : Int) = if x < y then -1 else if y < x then 1 else 0 := fun x y => by
    unfold ord
    by_cases hx : x < y
    · rw [if_pos hx, if_pos (by omega)]
    · by_cases hy : y < x
      · rw [if_neg hx, if_pos hy, if_neg (by omega), if_pos (by omega)]
      · rw [if_neg hx, if_neg hy, if_neg (by omega), if_neg (by omega)]
  rw [o, o, o, o]
  have hz : Lib.compareBytes [] [] = 0 := rfl
  rw [hz]
  by_cases q1 : a < a'
  · simp [q1]
  by_cases q2 : a' < a
  · simp [q1, q2]
  by_cases q3 : b < b'
  · simp [q1, q2, q3]
  by_cases q4 : b' < b
  · simp [q1, q2, q3, q4]
  by_cases q5 : c < c'
  · simp [q1, q2, q3, q4, q5]
  by_cases q6 : c' < c
  · simp [q1, q2, q3, q4, q5, q6]
  simp [q1, q2, q3, q4, q5, q6]
/-! ### Sizes -/
theorem flat_len : ∀ es : List DElem, (∀ e ∈ es, chkE e = 0) → (es.flatMap ebE).length ≤ 58 * es.length
  | [], _ => by simp
  | e :: es, h => by
    have h1 := flat_len es (fun x hx => h x (List.mem_cons_of_mem _ hx))
    have h2 := val_len (h e (List.mem_cons_self))
    rw [List.flatMap_cons, List.length_append, ebE_length, List.length_cons]; omega
theorem reachB : reachBytes = 140737488351232 := rfl
end Go.Proofs.Ytomgholekojenaa
