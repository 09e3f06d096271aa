/- Plain Lean: records as bytes. Its conditions: none. -/
import Derived.Test.YtgpcpllkcehheaaPureC
import Derived.Test.YtgpcpllkcehheaaPureA
namespace Go.Proofs.Ytgpcpllkcehheaa
open Go.ChangeShapes
set_option linter.unusedVariables false
set_option linter.unusedSimpArgs false

/-- A record's bytes. -/
def eb (a b c d g : Nat) (v : List UInt8) : List UInt8 := bigL a 1 ++ (bigL b 4 ++ (bigL c 4 ++ (bigL d 4 ++ (bigL g 4 ++ (bigL v.length 1 ++ v)))))
def mkE (a b c d g : Nat) (v : List UInt8) : DElem := ⟨⟨a, b, c⟩, d, g, ofL v⟩
/-- What a right record's numbers are. -/
def Fit (a b c d g : Nat) (v : List UInt8) : Prop := a ≤ 15 ∧ b ≤ 1048576 ∧ c ≤ 1073741824 ∧ 1 ≤ d ∧ d ≤ 2147483647 ∧ (g = 0 ∨ d < g ∧ g ≤ 2147483647) ∧ v.length ≤ 40
theorem eb_length (a b c d g : Nat) (v : List UInt8) : (eb a b c d g v).length = 18 + v.length := by
  simp [eb, bigL_length]; omega
theorem fit_of {e : DElem} (h : chkE e = 0) : ∃ a b c d g v, e = mkE a b c d g v ∧ Fit a b c d g v := by
  obtain ⟨⟨pfs, obj, off⟩, made, gone, val⟩ := e
  obtain ⟨v, rfl⟩ := exists_ofL val
  obtain ⟨h1, h2, h3, h4, h5⟩ := chkE_ok h
  unfold chkK at h1
  dsimp only at h1 h2 h3 h4 h5
  split at h1
  · cases h1
  · rename_i h1'
    refine ⟨pfs.toNat, obj.toNat, off.toNat, made.toNat, gone.toNat, v, ?_, by omega, by omega, by omega, by omega, by omega, by omega, h5⟩
    unfold mkE
    congr 1
    · congr 1 <;> omega
    · omega
    · omega
theorem chk_fit {a b c d g : Nat} {v : List UInt8} (h : Fit a b c d g v) : chkE (mkE a b c d g v) = 0 := by
  obtain ⟨h1, h2, h3, h4, h5, h6, h7⟩ := h
  unfold chkE chkK mkE
  dsimp only
  rw [if_neg (by rw [if_neg (by omega)]; simp), if_neg (by omega), if_neg (show ¬ 40 < (ofL v).size from (by omega : ¬ 40 < v.length))]
theorem code_Write_bad {e : DElem} (h : chkE e ≠ 0) : code_Write e = some (ofL [], chkE e) := by
  unfold code_Write
  rw [elem_Check_eq, obind, show (chkE e != 0) = true by simpa using h, ctrue]; rfl
theorem code_Write_good {a b c d g : Nat} {v : List UInt8} (h : Fit a b c d g v) : code_Write (mkE a b c d g v) = some (ofL (eb a b c d g v), 0) := by
  unfold code_Write
  have hv := h.2.2.2.2.2.2
  have p : ∀ n m : Nat, m ≤ 100 → big_Put (n : Int) (m : Int) = some (ofL (bigL n m)) := big_Put_eq
  rw [elem_Check_eq, obind, chk_fit h, show ((0 : Int) != 0) = false by decide, cfalse]
  dsimp only [mkE]
  have q1 : big_Put (a : Int) 1 = some (ofL (bigL a 1)) := p a 1 (by decide)
  have q2 : big_Put (b : Int) 4 = some (ofL (bigL b 4)) := p b 4 (by decide)
  have q3 : big_Put (c : Int) 4 = some (ofL (bigL c 4)) := p c 4 (by decide)
  have q4 : big_Put (d : Int) 4 = some (ofL (bigL d 4)) := p d 4 (by decide)
  have q5 : big_Put (g : Int) 4 = some (ofL (bigL g 4)) := p g 4 (by decide)
  have q6 : big_Put ((ofL v).size : Int) 1 = some (ofL (bigL v.length 1)) := p v.length 1 (by decide)
  have s : ∀ x y : List UInt8, x.length ≤ 100 → y.length ≤ 100 → scat (ofL x) (ofL y) = some (ofL (x ++ y)) := fun x y hx hy => scat_ofL (by omega)
  rw [q1, obind, q2, obind, s _ _ (by simp [bigL_length]) (by simp [bigL_length]), obind, q3, obind, s _ _ (by simp [bigL_length]) (by simp [bigL_length]), obind, q4, obind, s _ _ (by simp [bigL_length]) (by simp [bigL_length]), obind,
    q5, obind, s _ _ (by simp [bigL_length]) (by simp [bigL_length]), obind, q6, obind, s _ _ (by simp [bigL_length]) (by simp [bigL_length]), obind, s _ _ (by simp [bigL_length]) (by omega), obind]
  simp only [eb, List.append_assoc]
theorem write_cases (e : DElem) : (chkE e ≠ 0 ∧ code_Write e = some (ofL [], chkE e)) ∨ ∃ a b c d g v, e = mkE a b c d g v ∧ Fit a b c d g v ∧ code_Write e = some (ofL (eb a b c d g v), 0) := by
  by_cases h : chkE e = 0
  · obtain ⟨a, b, c, d, g, v, rfl, hf⟩ := fit_of h
    exact .inr ⟨a, b, c, d, g, v, rfl, hf, code_Write_good hf⟩
  · exact .inl ⟨h, code_Write_bad h⟩

/-- A piece of a text. -/
def sl (l : List UInt8) (a b : Nat) : List UInt8 := (l.take b).drop a
def zeroE : DElem := ⟨⟨0, 0, 0⟩, 0, 0, ofL []⟩
def gotE (l : List UInt8) : DElem := mkE (l.getD 0 0).toNat (valL (sl l 1 5)) (valL (sl l 5 9)) (valL (sl l 9 13)) (valL (sl l 13 17)) (sl l 18 (18 + (l.getD 17 0).toNat))
/-- What is got of a text. -/
def cget (l : List UInt8) : DElem × Int × Int :=
  if l.length < 18 ∨ l.length < 18 + (l.getD 17 0).toNat then (zeroE, 0, 7)
  else if chkE (gotE l) ≠ 0 then (zeroE, 0, 3) else (gotE l, ((18 + (l.getD 17 0).toNat : Nat) : Int), 0)
theorem sl_ofL {l : List UInt8} {a b : Nat} (h : a ≤ b) (hb : b ≤ l.length) : sslice (ofL l) (a : Int) (b : Int) = some (ofL (sl l a b)) := by
  rw [sslice_ofL (by omega) (by omega) (by omega), Int.toNat_natCast, Int.toNat_natCast]; rfl
theorem sl_length {l : List UInt8} {a b : Nat} (hb : b ≤ l.length) : (sl l a b).length = b - a := by
  rw [sl, List.length_drop, List.length_take]; omega
theorem sidx_at {l : List UInt8} {k : Nat} (h : k < l.length) : sidx (ofL l) (k : Int) = some (l.getD k 0) := by
  rw [sidx_ofL, if_pos (by omega), Int.toNat_natCast, List.getD_eq_getElem?_getD, List.getElem?_eq_getElem h]; rfl
theorem code_Get_eq (l : List UInt8) : code_Get (ofL l) = some (cget l) := by
  unfold code_Get cget
  have hb := (l.getD 17 0).toNat_lt
  have w1 : IntKind.i64.wrap ((l.getD 17 0).toNat : Int) = ((l.getD 17 0).toNat : Int) := wrap64 (by omega) (by omega)
  have w2 : IntKind.i64.wrap (18 + ((l.getD 17 0).toNat : Int)) = ((18 + (l.getD 17 0).toNat : Nat) : Int) := by rw [wrap64 (by omega) (by omega)]; omega
  by_cases h18 : l.length < 18
  · rw [if_pos (.inl h18), decide_eq_true (show ((ofL l).size : Int) < 18 from (by omega : (l.length : Int) < 18)), ctrue, obind, ctrue]; rfl
  · have hi17 : sidx (ofL l) 17 = some (l.getD 17 0) := sidx_at (k := 17) (by omega)
    have hi0 : sidx (ofL l) 0 = some (l.getD 0 0) := sidx_at (k := 0) (by omega)
    rw [decide_eq_false (show ¬ ((ofL l).size : Int) < 18 from (by omega : ¬ (l.length : Int) < 18)), cfalse, hi17, obind, w1, w2, obind]
    by_cases hn : l.length < 18 + (l.getD 17 0).toNat
    · rw [if_pos (.inr hn), decide_eq_true (show ((ofL l).size : Int) < ((18 + (l.getD 17 0).toNat : Nat) : Int) from (by omega : (l.length : Int) < _)), ctrue]; rfl
    · have g : ∀ x y : Nat, x ≤ y → y ≤ 17 → y - x ≤ 7 → big_Get (ofL (sl l x y)) = some ((valL (sl l x y) : Nat) : Int) := fun x y h1 h2 h3 => big_Get_ofL _ (by rw [sl_length (by omega)]; exact h3)
      have s1 : sslice (ofL l) 1 5 = some (ofL (sl l 1 5)) := sl_ofL (a := 1) (b := 5) (by decide) (by omega)
      have s2 : sslice (ofL l) 5 9 = some (ofL (sl l 5 9)) := sl_ofL (a := 5) (b := 9) (by decide) (by omega)
      have s3 : sslice (ofL l) 9 13 = some (ofL (sl l 9 13)) := sl_ofL (a := 9) (b := 13) (by decide) (by omega)
      have s4 : sslice (ofL l) 13 17 = some (ofL (sl l 13 17)) := sl_ofL (a := 13) (b := 17) (by decide) (by omega)
      have s5 : sslice (ofL l) 18 ((18 + (l.getD 17 0).toNat : Nat) : Int) = some (ofL (sl l 18 (18 + (l.getD 17 0).toNat))) := sl_ofL (a := 18) (by omega) (by omega)
      have hb0 := (l.getD 0 0).toNat_lt
      rw [if_neg (by omega), decide_eq_false (show ¬ ((ofL l).size : Int) < ((18 + (l.getD 17 0).toNat : Nat) : Int) from (by omega : ¬ (l.length : Int) < _)), cfalse, hi0, obind, w1, w2, obind, s5, obind, s1, obind, g 1 5 (by decide) (by decide) (by decide), obind, obind,
        s2, obind, g 5 9 (by decide) (by decide) (by decide), obind, obind, s3, obind, g 9 13 (by decide) (by decide) (by decide), obind, obind, s4, obind, g 13 17 (by decide) (by decide) (by decide), obind, obind, elem_Check_eq, obind,
        wrap64 (n := ((l.getD 0 0).toNat : Int)) (by omega) (by omega)]
      have hgot : DElem.mk (DKey.mk ((l.getD 0 0).toNat : Int) ((valL (sl l 1 5) : Nat) : Int) ((valL (sl l 5 9) : Nat) : Int)) ((valL (sl l 9 13) : Nat) : Int) ((valL (sl l 13 17) : Nat) : Int) (ofL (sl l 18 (18 + (l.getD 17 0).toNat))) = gotE l := rfl
      rw [hgot]
      by_cases hc : chkE (gotE l) = 0
      · rw [hc, show ((0 : Int) != 0) = false by decide, cfalse, if_neg (by simp)]
      · rw [show (chkE (gotE l) != 0) = true by simpa using hc, ctrue, if_pos hc]; rfl

theorem val_fit {n : Nat} (h : n < 4294967296) : valL (bigL n 4) = n := by rw [valL_big]; exact Nat.mod_eq_of_lt h
theorem got_eb {a b c d g : Nat} {v : List UInt8} (h : Fit a b c d g v) (more : List UInt8) : ((eb a b c d g v ++ more).getD 17 0).toNat = v.length ∧ gotE (eb a b c d g v ++ more) = mkE a b c d g v := by
  obtain ⟨h1, h2, h3, h4, h5, h6, h7⟩ := h
  have e17 : ((eb a b c d g v ++ more).getD 17 0).toNat = v.length := by
    show (UInt8.ofNat (v.length / 256 ^ 0)).toNat = _
    rw [Nat.pow_zero, Nat.div_one, UInt8.toNat_ofNat']; exact Nat.mod_eq_of_lt (by omega)
  refine ⟨e17, ?_⟩
  unfold gotE
  rw [e17]
  have e0 : ((eb a b c d g v ++ more).getD 0 0).toNat = a := by
    show (UInt8.ofNat (a / 256 ^ 0)).toNat = _
    rw [Nat.pow_zero, Nat.div_one, UInt8.toNat_ofNat']; exact Nat.mod_eq_of_lt (by omega)
  have s1 : sl (eb a b c d g v ++ more) 1 5 = bigL b 4 := rfl
  have s2 : sl (eb a b c d g v ++ more) 5 9 = bigL c 4 := rfl
  have s3 : sl (eb a b c d g v ++ more) 9 13 = bigL d 4 := rfl
  have s4 : sl (eb a b c d g v ++ more) 13 17 = bigL g 4 := rfl
  have s5 : sl (eb a b c d g v ++ more) 18 (18 + v.length) = v := by
    rw [sl, List.drop_take]
    show List.take (18 + v.length - 18) (v ++ more) = v
    rw [Nat.add_sub_cancel_left]
    exact List.take_left' rfl
  rw [e0, s1, s2, s3, s4, s5, val_fit (by omega), val_fit (by omega), val_fit (by omega), val_fit (by omega)]
theorem cget_eb {a b c d g : Nat} {v : List UInt8} (h : Fit a b c d g v) (more : List UInt8) : cget (eb a b c d g v ++ more) = (mkE a b c d g v, ((18 + v.length : Nat) : Int), 0) := by
  obtain ⟨e1, e2⟩ := got_eb h more
  unfold cget
  rw [e1, e2, if_neg (by rw [List.length_append, eb_length]; omega), chk_fit h, if_neg (by simp)]
theorem cget_short {a b c d g : Nat} {v : List UInt8} (h : Fit a b c d g v) (j : Nat) (hj : j < 18 + v.length) : (cget ((eb a b c d g v).take j)).2.2 = 7 := by
  have hl : ((eb a b c d g v).take j).length = j := by rw [List.length_take, eb_length]; omega
  unfold cget
  by_cases h18 : j < 18
  · rw [if_pos (.inl (by omega))]
  · have e1 := (got_eb h []).1
    rw [List.append_nil] at e1
    have e2 : ((eb a b c d g v).take j).getD 17 0 = (eb a b c d g v).getD 17 0 := by
      rw [List.getD_eq_getElem?_getD, List.getD_eq_getElem?_getD, List.getElem?_take, if_pos (by omega)]
    rw [if_pos (.inr (by rw [e2, e1, hl]; exact hj))]
/-- What is got is written as it was. -/
theorem eb_cget {l : List UInt8} (h : (cget l).2.2 = 0) : ∃ a b c d g v, Fit a b c d g v ∧ 18 + v.length ≤ l.length ∧ cget l = (mkE a b c d g v, ((18 + v.length : Nat) : Int), 0) ∧ eb a b c d g v = l.take (18 + v.length) := by
  unfold cget at h ⊢
  by_cases h1 : l.length < 18 ∨ l.length < 18 + (l.getD 17 0).toNat
  · rw [if_pos h1] at h; cases h
  rw [if_neg h1] at h ⊢
  by_cases h2 : chkE (gotE l) ≠ 0
  · rw [if_pos h2] at h; cases h
  rw [if_neg h2]
  have h3 : chkE (gotE l) = 0 := Decidable.not_not.1 h2
  have hfit : Fit (l.getD 0 0).toNat (valL (sl l 1 5)) (valL (sl l 5 9)) (valL (sl l 9 13)) (valL (sl l 13 17)) (sl l 18 (18 + (l.getD 17 0).toNat)) := by
    obtain ⟨a, b, c, d, g, v, he, hf⟩ := fit_of h3
    simp only [gotE, mkE, DElem.mk.injEq, DKey.mk.injEq, ofL_inj] at he
    obtain ⟨⟨ea, eb', ec⟩, ed, eg, ev⟩ := he
    rw [ev, show (l.getD 0 0).toNat = a by omega, show valL (sl l 1 5) = b by omega, show valL (sl l 5 9) = c by omega, show valL (sl l 9 13) = d by omega, show valL (sl l 13 17) = g by omega]
    exact hf
  have hn : (sl l 18 (18 + (l.getD 17 0).toNat)).length = (l.getD 17 0).toNat := by rw [sl_length (by omega)]; omega
  refine ⟨_, _, _, _, _, _, hfit, by rw [hn]; omega, by rw [hn]; rfl, ?_⟩
  rw [hn, eb, hn]
  have b1 : ∀ x : UInt8, bigL x.toNat 1 = [x] := fun x => by simp [bigL]
  have b4 : ∀ x : List UInt8, x.length = 4 → bigL (valL x) 4 = x := fun x hx => by have := big_val x; rwa [hx] at this
  rw [b1, b1, b4 _ (sl_length (by omega)), b4 _ (sl_length (by omega)), b4 _ (sl_length (by omega)), b4 _ (sl_length (by omega))]
  have ts : ∀ x y, x ≤ y → l.take y = l.take x ++ sl l x y := fun x y h => by
    have := List.take_append_drop x (l.take y)
    rw [List.take_take, Nat.min_eq_left h] at this
    exact this.symm
  have one : ∀ k, k < l.length → sl l k (k + 1) = [l.getD k 0] := fun k hk => by
    rw [sl, List.drop_take, Nat.add_sub_cancel_left, List.drop_eq_getElem_cons hk, List.getD_eq_getElem?_getD, List.getElem?_eq_getElem hk, List.take_succ_cons]
    rfl
  rw [ts 18 (18 + (l.getD 17 0).toNat) (by omega), ts 17 18 (by decide), ts 13 17 (by decide), ts 9 13 (by decide), ts 5 9 (by decide), ts 1 5 (by decide), ts 0 1 (by decide), List.take_zero, one 0 (by omega), one 17 (by omega)]
  simp only [List.nil_append, List.append_assoc]
theorem cget_bad {l : List UInt8} (h : (cget l).2.2 ≠ 0) : (cget l).2.1 = 0 ∧ (cget l).1 = zeroE := by
  unfold cget at h ⊢
  by_cases h1 : l.length < 18 ∨ l.length < 18 + (l.getD 17 0).toNat
  · rw [if_pos h1]; exact ⟨rfl, rfl⟩
  rw [if_neg h1] at h ⊢
  by_cases h2 : chkE (gotE l) ≠ 0
  · rw [if_pos h2]; exact ⟨rfl, rfl⟩
  rw [if_neg h2] at h
  exact absurd rfl h
theorem beq_self_elem (e : DElem) : (e == e) = true := by simp
theorem ne00' : ((0 : Int) != 0) = false := by decide
theorem eq00' : ((0 : Int) == 0) = true := by decide

theorem annalkeep_CodeOne_true (p0 : ByteArray) (k0 : okStr p0) (k0_ : p0.size ≤ reachBytes) : annalkeep_CodeOne p0 = some true := by
  obtain ⟨l, rfl⟩ := exists_ofL p0
  have hl : l.length ≤ 140737488351232 := reach k0_
  unfold annalkeep_CodeOne
  have g1 : code_Get (ByteArray.mk #[120]) = some (zeroE, 0, 7) := (code_Get_eq [120]).trans (congrArg some (by rw [cget, if_pos (.inl (by decide))]))
  rw [g1, obind]
  dsimp only
  rw [show ((7 : Int) != 7) = false by decide, cfalse, code_Get_eq, obind]
  by_cases hz : (cget l).2.2 = 0
  · obtain ⟨a, b, c, d, g, v, hf, h1, h2, h3⟩ := eb_cget hz
    rw [hz, ne00', cfalse, h2]
    dsimp only
    have hsl : sslice (ofL l) 0 ((18 + v.length : Nat) : Int) = some (ofL (l.take (18 + v.length))) := sl_ofL (a := 0) (by omega) h1
    rw [code_Write_good hf, obind]
    dsimp only
    rw [eq00', ctrue, decide_eq_true (show ((18 + v.length : Nat) : Int) ≤ ((ofL l).size : Int) from (by omega : _ ≤ (l.length : Int))), ctrue, hsl, obind, obind, seq_ofL, h3]
    simp
  · obtain ⟨b1, b2⟩ := cget_bad hz
    rw [show ((cget l).2.2 != 0) = true by simpa using hz, ctrue, b1, b2]
    have : (zeroE == (DElem.mk (DKey.mk 0 0 0) 0 0 (ByteArray.mk #[]))) = true := beq_self_elem _
    rw [this]; rfl

/-! ### Many records -/
def ebE (e : DElem) : List UInt8 := eb e.key.pfs.toNat e.key.obj.toNat e.key.off.toNat e.made.toNat e.gone.toNat e.val.data.toList
theorem ebE_mk (a b c d g : Nat) (v : List UInt8) : ebE (mkE a b c d g v) = eb a b c d g v := rfl
theorem ebE_length (e : DElem) : (ebE e).length = 18 + e.val.size := eb_length _ _ _ _ _ _
theorem cget_ebE {e : DElem} (h : chkE e = 0) (more : List UInt8) : cget (ebE e ++ more) = (e, ((18 + e.val.size : Nat) : Int), 0) := by
  obtain ⟨a, b, c, d, g, v, rfl, hf⟩ := fit_of h
  exact cget_eb hf more
theorem cget_ebE_short {e : DElem} (h : chkE e = 0) (j : Nat) (hj : j < 18 + e.val.size) : (cget ((ebE e).take j)).2.2 = 7 := by
  obtain ⟨a, b, c, d, g, v, rfl, hf⟩ := fit_of h
  exact cget_short hf j hj
theorem code_Write_eq (e : DElem) : code_Write e = some (if chkE e = 0 then (ofL (ebE e), 0) else (ofL [], chkE e)) := by
  by_cases h : chkE e = 0
  · rw [if_pos h]
    obtain ⟨a, b, c, d, g, v, rfl, hf⟩ := fit_of h
    exact code_Write_good hf
  · rw [if_neg h]; exact code_Write_bad h
theorem grow_some' {α : Type} {b : Nat} {l m : List α} (h : (l.length + m.length) * b ≤ 140737488355328) (hm : l.length + m.length ≤ maxLen) : grow b l m = some (l ++ m) := by
  unfold grow; rw [if_pos ⟨h, hm⟩]
theorem flatMap_drop {l : List DElem} {k : Nat} (hk : k < l.length) : (l.drop k).flatMap ebE = ebE l[k] ++ (l.drop (k + 1)).flatMap ebE := by
  rw [List.drop_eq_getElem_cons hk, List.flatMap_cons]
theorem code_All_ebs (es : List DElem) (hes : ∀ e ∈ es, chkE e = 0) (hlen : es.length ≤ 2513169434916) : code_All (ofL (es.flatMap ebE)) = some (es, 0) := by
  unfold code_All
  refine iter_bind (fun k => (es.take k, ofL ((es.drop k).flatMap ebE))) (r := .inl es) es.length (by omega) (by simp) rfl (fun k hk => ?_) ?_
  · dsimp only
    have hc := hes es[k] (List.getElem_mem hk)
    have hne : seq (ofL ((es.drop k).flatMap ebE)) (ByteArray.mk #[]) = false := by
      have := seq_ofL ((es.drop k).flatMap ebE) []
      rw [flatMap_drop hk] at this ⊢
      refine this.trans ?_
      rw [beq_eq_false_iff_ne]
      intro h
      have := congrArg List.length h
      rw [List.length_append, ebE_length] at this
      simp at this
    have hsz : ((18 + es[k].val.size : Nat) : Int) ≤ (((es.drop k).flatMap ebE).length : Int) := by
      rw [flatMap_drop hk, List.length_append, ebE_length]; omega
    have hsl : sslice (ofL ((es.drop k).flatMap ebE)) ((18 + es[k].val.size : Nat) : Int) ((ofL ((es.drop k).flatMap ebE)).size : Int) = some (ofL ((es.drop (k + 1)).flatMap ebE)) := by
      have := sslice_ofL (l := (es.drop k).flatMap ebE) (lo := ((18 + es[k].val.size : Nat) : Int)) (hi := (((es.drop k).flatMap ebE).length : Int)) (by omega) hsz (by omega)
      rw [Int.toNat_natCast, Int.toNat_natCast, List.take_length] at this
      refine this.trans ?_
      rw [flatMap_drop hk, List.drop_left' (ebE_length _)]
    have hg : cget ((es.drop k).flatMap ebE) = (es[k], ((18 + es[k].val.size : Nat) : Int), 0) := by rw [flatMap_drop hk, cget_ebE hc]
    have htl : (es.take k).length = k := by rw [List.length_take]; omega
    have hgr : grow 56 (es.take k) [es[k]] = some (es.take k ++ [es[k]]) := grow_some' (by rw [htl]; simp; omega) (by rw [htl]; unfold maxLen; simp; omega)
    rw [hne, Bool.not_false, ctrue, code_Get_eq, obind, hg]
    dsimp only
    rw [ne00', cfalse, hgr, obind, hsl, obind]
    have e2 : es.take (k + 1) = es.take k ++ [es[k]] := by
      rw [List.take_add_one, List.getElem?_eq_getElem hk]; rfl
    rw [e2]
  · dsimp only
    rw [List.drop_length, List.take_length, List.flatMap_nil]
    have : seq (ofL []) (ByteArray.mk #[]) = true := (seq_ofL [] []).trans (by decide)
    rw [this]
    rfl
/-- slices.Equal. -/
theorem slices_Equal_Elem_eq (p q : List DElem) (hp : p.length ≤ 9223372036854775807) (hq : q.length ≤ 9223372036854775807) : slices_Equal_Elem p q = some (decide (p = q)) := by
  unfold slices_Equal_Elem
  by_cases hl : p.length = q.length
  · rw [show ((p.length : Int) != (q.length : Int)) = false by rw [bne_eq_false_iff_eq]; omega, cfalse]
    have key := iter_scan (ρ := Unit ⊕ Bool) (f := fun x1 : Int =>
        bif decide (x1 < (p.length : Int)) then
            (idx p x1).bind fun e1 =>
            (idx q x1).bind fun e2 =>
            bif (!(e1 == e2)) then
              some (.inr (.inr false))
            else
              some (.inl (IntKind.i64.wrap (x1 + 1)))
          else
            some (.inr (.inl ()))) (fun k => (k : Int)) (fun k => if p[k]? = q[k]? then none else some (.inr false)) p.length (res := .inl ()) (fun k hk => by
      rw [decide_eq_true (show (k : Int) < (p.length : Int) by omega), ctrue, idx_nat, idx_nat, List.getElem?_eq_getElem hk, List.getElem?_eq_getElem (show k < q.length by omega), obind, obind]
      by_cases he : p[k] = q[k]'(by omega)
      · rw [if_pos (by rw [he]), he, beq_self_elem, Bool.not_true, cfalse, wrap64 (by omega) (by omega)]; rfl
      · rw [if_neg (by simpa using he), show (p[k] == q[k]'(by omega)) = false by simpa using he]; rfl) (by
      rw [decide_eq_false (by omega)]; rfl) p.length 0 FUEL (by omega) (lt_FUEL hp)
    rw [show iter _ FUEL (0 : Int) = _ from key, obind]
    by_cases he : p = q
    · subst he
      have : (List.range' 0 p.length).findSome? (fun k => if p[k]? = p[k]? then none else some (Sum.inr false : Unit ⊕ Bool)) = none := by simp
      rw [this]; simp
    · have hx : ∃ k, k < p.length ∧ p[k]? ≠ q[k]? := by
        by_cases hx : ∃ k, k < p.length ∧ p[k]? ≠ q[k]?
        · exact hx
        · exfalso
          apply he
          apply List.ext_getElem?
          intro k
          by_cases hk : k < p.length
          · by_cases h2 : p[k]? = q[k]?
            · exact h2
            · exact absurd ⟨k, hk, h2⟩ hx
          · rw [List.getElem?_eq_none (by omega), List.getElem?_eq_none (by omega)]
      have : (List.range' 0 p.length).findSome? (fun k => if p[k]? = q[k]? then none else some (Sum.inr false : Unit ⊕ Bool)) = some (.inr false) := by
        cases hf : (List.range' 0 p.length).findSome? (fun k => if p[k]? = q[k]? then none else some (Sum.inr false : Unit ⊕ Bool)) with
        | none =>
          rw [List.findSome?_eq_none_iff] at hf
          obtain ⟨k, hk, h2⟩ := hx
          have := hf k (by simp [List.mem_range']; omega)
          rw [if_neg h2] at this
          cases this
        | some r =>
          obtain ⟨k, _, hr⟩ := List.exists_of_findSome?_eq_some hf
          split at hr
          · cases hr
          · exact hr.symm
      rw [this]
      simp [he]
  · rw [show ((p.length : Int) != (q.length : Int)) = true by rw [bne_iff_ne]; omega, ctrue, decide_eq_false (fun e => hl (by rw [e]))]

theorem at1_eq (n : Int) (s : ByteArray) : annalkeep_at1 n s = some ⟨⟨0, 0, n⟩, 1, 0, s⟩ := rfl
theorem chk_one (n : Nat) (v : List UInt8) (hn : n ≤ 1073741824) (hv : v.length ≤ 40) : chkE ⟨⟨0, 0, n⟩, 1, 0, ofL v⟩ = 0 :=
  chk_fit (a := 0) (b := 0) (c := n) (d := 1) (g := 0) (v := v) ⟨by omega, by omega, hn, by omega, by omega, .inl rfl, hv⟩
theorem val_len {e : DElem} (h : chkE e = 0) : e.val.size ≤ 40 := (chkE_ok h).2.2.2.2
theorem bsize (l : List UInt8) : ((ofL l).size : Int) = (l.length : Int) := rfl

theorem annalkeep_CodeBack_true (p0 p1 : DElem) (p2 : ByteArray) (p3 : Int) (k0 : okElem p0) (k1 : okElem p1) (k2 : okStr p2) (k2_ : p2.size ≤ reachBytes) (k3 : (Lit.int .i64 p3).wf = true) : annalkeep_CodeBack p0 p1 p2 p3 = some true := by
  obtain ⟨m, rfl⟩ := exists_ofL p2
  have hm : m.length ≤ 140737488351232 := reach k2_
  unfold annalkeep_CodeBack
  have c1 := chk_one 1 [97, 98] (by decide) (by decide)
  have e1 : code_Write ⟨⟨0, 0, 1⟩, 1, 0, ByteArray.mk #[97, 98]⟩ = some (ofL (ebE ⟨⟨0, 0, (1 : Nat)⟩, 1, 0, ofL [97, 98]⟩), 0) := by
    have := code_Write_eq ⟨⟨0, 0, (1 : Nat)⟩, 1, 0, ofL [97, 98]⟩
    rw [if_pos c1] at this
    exact this
  rw [at1_eq, obind, e1, obind]
  dsimp only
  rw [ne00', bsize, ebE_length, show (((18 + (ofL [97, 98]).size : Nat) : Int) != 20) = false from by decide, Bool.or_self, cfalse, code_Write_eq p0]
  by_cases h0 : chkE p0 = 0
  · rw [if_pos h0, obind]
    dsimp only
    have hv0 := val_len h0
    have hl0 := ebE_length p0
    obtain ⟨r, hr, hr0, hr1⟩ := within_some p3 (n := ((ofL (ebE p0)).size : Int)) (by rw [bsize]; omega) (by rw [bsize]; omega)
    rw [bsize] at hr1
    have hcat : scat (ofL (ebE p0)) (ofL m) = some (ofL (ebE p0 ++ m)) := scat_ofL (by omega)
    have hsl : sslice (ofL (ebE p0)) 0 r = some (ofL ((ebE p0).take r.toNat)) := sslice_ofL (by decide) hr0 (by omega)
    have hz : (((18 + p0.val.size : Nat) : Int) != ((ofL (ebE p0)).size : Int)) = false := by rw [bsize, hl0]; simp
    rw [ne00', cfalse, hcat, obind, code_Get_eq, obind, hr, obind, hsl, obind, code_Get_eq, obind, cget_ebE h0, cget_ebE_short h0 _ (by omega)]
    dsimp only
    rw [ne00', beq_self_elem, Bool.not_true, hz, show ((7 : Int) != 7) = false by decide, Bool.or_self, Bool.or_self, Bool.or_self, cfalse, code_Write_eq p1]
    by_cases h1 : chkE p1 = 0
    · have hv1 := val_len h1
      have hl1 := ebE_length p1
      have hcat2 : scat (ofL (ebE p0)) (ofL (ebE p1)) = some (ofL ([p0, p1].flatMap ebE)) := by
        rw [scat_ofL (by omega)]; simp
      have hall := code_All_ebs [p0, p1] (by simp [h0, h1]) (by simp)
      rw [if_pos h1, obind]
      dsimp only
      rw [ne00', cfalse, hcat2, obind, hall, obind]
      dsimp only
      rw [eq00', ctrue, slices_Equal_Elem_eq _ _ (by simp) (by simp), obind, obind, decide_eq_true rfl]
    · rw [if_neg h1, obind]
      dsimp only
      rw [show (chkE p1 != 0) = true by simpa using h1, ctrue]
  · rw [if_neg h0, obind]
    dsimp only
    have : seq (ofL []) (ByteArray.mk #[]) = true := (seq_ofL [] []).trans (by decide)
    rw [show (chkE p0 != 0) = true by simpa using h0, ctrue, this, ctrue, elem_Check_eq, obind, obind]
    simp

/-! ### The order of bytes -/
theorem cmpB_big : ∀ (k a b : Nat) (x y : List UInt8), Lib.compareBytes (bigL a k ++ x) (bigL b k ++ y) = if a % 256 ^ k < b % 256 ^ k then -1 else if b % 256 ^ k < a % 256 ^ k then 1 else Lib.compareBytes x y
  | 0, a, b, x, y => by simp [bigL, Nat.mod_one]
  | k + 1, a, b, x, y => by
    have hA := Nat.mod_mul (x := a) (a := 256 ^ k) (b := 256)
    have hB := Nat.mod_mul (x := b) (a := 256 ^ k) (b := 256)
    have la := Nat.mod_lt a (show 0 < 256 ^ k from Nat.pow_pos (by decide))
    have lb := Nat.mod_lt b (show 0 < 256 ^ k from Nat.pow_pos (by decide))
    rw [bigL, bigL, List.cons_append, List.cons_append, Lib.compareBytes, cmpB_big k, Nat.pow_succ, hA, hB]
    have ua : (UInt8.ofNat (a / 256 ^ k)).toNat = a / 256 ^ k % 256 := UInt8.toNat_ofNat'
    have ub : (UInt8.ofNat (b / 256 ^ k)).toNat = b / 256 ^ k % 256 := UInt8.toNat_ofNat'
    generalize a / 256 ^ k % 256 = ha at *
    generalize b / 256 ^ k % 256 = hb at *
    generalize a % 256 ^ k = ra at *
    generalize b % 256 ^ k = rb at *
    generalize 256 ^ k = P at *
    have step : ∀ u v : Nat, u < v → ∀ r s : Nat, r < P → r + P * u < s + P * v := fun u v huv r s hr => by
      have : P * (u + 1) ≤ P * v := Nat.mul_le_mul_left P huv
      rw [Nat.mul_add, Nat.mul_one] at this
      omega
    by_cases h1 : ha < hb
    · rw [if_pos (UInt8.lt_iff_toNat_lt.2 (by rw [ua, ub]; exact h1)), if_pos (step _ _ h1 _ _ la)]
    · by_cases h2 : hb < ha
      · have s2 := step _ _ h2 rb ra lb
        rw [if_neg (fun h => by have := UInt8.lt_iff_toNat_lt.1 h; omega), if_pos (UInt8.lt_iff_toNat_lt.2 (by rw [ua, ub]; exact h2)), if_neg (by omega), if_pos s2]
      · have he : ha = hb := by omega
        subst he
        rw [if_neg (fun h => by have := UInt8.lt_iff_toNat_lt.1 h; omega), if_neg (fun h => by have := UInt8.lt_iff_toNat_lt.1 h; omega)]
        by_cases h3 : ra < rb
        · rw [if_pos h3, if_pos (by omega)]
        · by_cases h4 : rb < ra
          · rw [if_neg h3, if_pos h4, if_neg (by omega), if_pos (by omega)]
          · rw [if_neg h3, if_neg h4, if_neg (by omega), if_neg (by omega)]
theorem ebE_take (a b c d g : Nat) (v : List UInt8) : (eb a b c d g v).take 13 = bigL a 1 ++ (bigL b 4 ++ (bigL c 4 ++ (bigL d 4 ++ []))) := rfl
theorem scmp_spots {a b c d g a' b' c' d' g' : Nat} {v v' : List UInt8} (h : Fit a b c d g v) (h' : Fit a' b' c' d' g' v') :
    scmp (ofL ((eb a b c d g v).take 13)) (ofL ((eb a' b' c' d' g' v').take 13)) = cmpS ⟨⟨a, b, c⟩, d⟩ ⟨⟨a', b', c'⟩, d'⟩ := by
  obtain ⟨h1, h2, h3, h4, h5, h6, h7⟩ := h
  obtain ⟨h1', h2', h3', h4', h5', h6', h7'⟩ := h'
  show Lib.compareBytes ((eb a b c d g v).take 13) ((eb a' b' c' d' g' v').take 13) = _
  have p1 : (256 : Nat) ^ 1 = 256 := by decide
  have p4 : (256 : Nat) ^ 4 = 4294967296 := by decide
  rw [ebE_take, ebE_take, cmpB_big, cmpB_big, cmpB_big, cmpB_big, cmpS_def, cmpK_def, p1, p4]
  rw [Nat.mod_eq_of_lt (a := a) (by omega), Nat.mod_eq_of_lt (a := a') (by omega), Nat.mod_eq_of_lt (a := b) (by omega), Nat.mod_eq_of_lt (a := b') (by omega), Nat.mod_eq_of_lt (a := c) (by omega), Nat.mod_eq_of_lt (a := c') (by omega),
    Nat.mod_eq_of_lt (a := d) (by omega), Nat.mod_eq_of_lt (a := d') (by omega)]
  dsimp only
  have o : ∀ x y : Nat, ord (x : Int) (y : Int) = if x < y then -1 else if y < x then 1 else 0 := fun x y => by
    unfold ord
    by_cases hx : x < y
    · rw [if_pos hx, if_pos (by omega)]
    · by_cases hy : y < x
      · rw [if_neg hx, if_pos hy, if_neg (by omega), if_pos (by omega)]
      · rw [if_neg hx, if_neg hy, if_neg (by omega), if_neg (by omega)]
  rw [o, o, o, o]
  have hz : Lib.compareBytes [] [] = 0 := rfl
  rw [hz]
  by_cases q1 : a < a'
  · simp [q1]
  by_cases q2 : a' < a
  · simp [q1, q2]
  by_cases q3 : b < b'
  · simp [q1, q2, q3]
  by_cases q4 : b' < b
  · simp [q1, q2, q3, q4]
  by_cases q5 : c < c'
  · simp [q1, q2, q3, q4, q5]
  by_cases q6 : c' < c
  · simp [q1, q2, q3, q4, q5, q6]
  simp [q1, q2, q3, q4, q5, q6]
theorem annalkeep_CodeOrders_true (p0 p1 : DElem) (k0 : okElem p0) (k1 : okElem p1) : annalkeep_CodeOrders p0 p1 = some true := by
  unfold annalkeep_CodeOrders
  have c1 := chk_one 1 [97] (by decide) (by decide)
  have e1 : code_Write ⟨⟨0, 0, 1⟩, 1, 0, ByteArray.mk #[97]⟩ = some (ofL (ebE ⟨⟨0, 0, (1 : Nat)⟩, 1, 0, ofL [97]⟩), 0) := by
    have := code_Write_eq ⟨⟨0, 0, (1 : Nat)⟩, 1, 0, ofL [97]⟩
    rw [if_pos c1] at this
    exact this
  have t13 : ∀ l : List UInt8, 13 ≤ l.length → sslice (ofL l) 0 13 = some (ofL (l.take 13)) := fun l hl => sslice_ofL (by decide) (by decide) (by omega)
  have c2 : seq (ofL ((ebE ⟨⟨0, 0, (1 : Nat)⟩, 1, 0, ofL [97]⟩).take 13)) (ByteArray.mk #[0, 0, 0, 0, 0, 0, 0, 0, 1, 0, 0, 0, 1]) = true := (seq_ofL _ [0, 0, 0, 0, 0, 0, 0, 0, 1, 0, 0, 0, 1]).trans (by decide)
  rw [at1_eq, obind, e1, obind]
  dsimp only
  rw [ne00', cfalse, bsize, ebE_length, show decide (((18 + (ofL [97]).size : Nat) : Int) < 13) = false from by decide, cfalse, t13 _ (by rw [ebE_length]; omega), obind, c2, Bool.not_true, obind, cfalse, code_Write_eq p0, code_Write_eq p1]
  by_cases h0 : chkE p0 = 0
  · by_cases h1 : chkE p1 = 0
    · rw [if_pos h0, if_pos h1, obind, obind]
      dsimp only
      have hl0 := ebE_length p0
      have hl1 := ebE_length p1
      rw [ne00', Bool.or_self, cfalse, decide_eq_true (show (13 : Int) ≤ ((ofL (ebE p0)).size : Int) by rw [bsize]; omega), ctrue, decide_eq_true (show (13 : Int) ≤ ((ofL (ebE p1)).size : Int) by rw [bsize]; omega), ctrue, t13 _ (by omega), obind, t13 _ (by omega), obind]
      have hs : ∀ x y, strings_Compare x y = some (scmp x y) := fun _ _ => rfl
      have hp : ∀ e : DElem, elem_Spot e = some ⟨e.key, e.made⟩ := fun _ => rfl
      rw [hs, obind, hp, obind, hp, obind, key_CmpSpot_eq, obind, obind]
      obtain ⟨a, b, c, d, g, v, rfl, hf⟩ := fit_of h0
      obtain ⟨a', b', c', d', g', v', rfl, hf'⟩ := fit_of h1
      rw [ebE_mk, ebE_mk, scmp_spots hf hf']
      simp [mkE]
    · rw [if_pos h0, if_neg h1, obind, obind]
      dsimp only
      rw [show (chkE p1 != 0) = true by simpa using h1, Bool.or_true, ctrue, eq00', Bool.true_or]
  · have hsq : seq (ofL []) (ByteArray.mk #[]) = true := (seq_ofL [] []).trans (by decide)
    by_cases h1 : chkE p1 = 0
    · rw [if_neg h0, if_pos h1, obind, obind]
      dsimp only
      rw [show (chkE p0 != 0) = true by simpa using h0, Bool.true_or, ctrue, hsq, Bool.or_true]
    · rw [if_neg h0, if_neg h1, obind, obind]
      dsimp only
      rw [show (chkE p0 != 0) = true by simpa using h0, Bool.true_or, ctrue, hsq, Bool.or_true]

/-! ### Sizes -/
theorem flat_len : ∀ es : List DElem, (∀ e ∈ es, chkE e = 0) → (es.flatMap ebE).length ≤ 58 * es.length
  | [], _ => by simp
  | e :: es, h => by
    have h1 := flat_len es (fun x hx => h x (List.mem_cons_of_mem _ hx))
    have h2 := val_len (h e (List.mem_cons_self))
    rw [List.flatMap_cons, List.length_append, ebE_length, List.length_cons]; omega
theorem reachB : reachBytes = 140737488351232 := rfl
theorem annalkeep_CodeSize_true (p0 : List DElem) (k0 : okAllW 56 okElem p0) : annalkeep_CodeSize p0 = some true := by
  have hlen : p0.length ≤ 2513169434843 := by
    have := k0.1
    rw [reachB] at this; omega
  unfold annalkeep_CodeSize
  have c1 := chk_one 1 [97, 98, 99] (by decide) (by decide)
  have e1 : code_Write ⟨⟨0, 0, 1⟩, 1, 0, ByteArray.mk #[97, 98, 99]⟩ = some (ofL (ebE ⟨⟨0, 0, (1 : Nat)⟩, 1, 0, ofL [97, 98, 99]⟩), 0) := by
    have := code_Write_eq ⟨⟨0, 0, (1 : Nat)⟩, 1, 0, ofL [97, 98, 99]⟩
    rw [if_pos c1] at this
    exact this
  rw [at1_eq, obind, e1, obind]
  dsimp only
  rw [ne00', bsize, ebE_length, show (((18 + (ofL [97, 98, 99]).size : Nat) : Int) != 21) = false from by decide, Bool.or_self, cfalse]
  -- the first record that is not right, if there is one
  have hj := List.findIdx_le_length (p := fun e => decide (chkE e ≠ 0)) (xs := p0)
  have hgood : ∀ k (hk : k < p0.length), k < p0.findIdx (fun e => decide (chkE e ≠ 0)) → chkE p0[k] = 0 := fun k hk hkj => by
    have := List.not_of_lt_findIdx hkj
    simpa using this
  generalize hjd : p0.findIdx (fun e => decide (chkE e ≠ 0)) = j at hj hgood
  have hpre : ∀ k, k ≤ j → ∀ e ∈ p0.take k, chkE e = 0 := fun k hk e he => by
    obtain ⟨i, hi, rfl⟩ := List.getElem_of_mem he
    rw [List.length_take] at hi
    rw [List.getElem_take]
    exact hgood i (by omega) (by omega)
  have hsz : ∀ k, k ≤ j → ((p0.take k).flatMap ebE).length ≤ 58 * k := fun k hk => by
    have := flat_len _ (hpre k hk)
    rw [List.length_take, Nat.min_eq_left (by omega)] at this
    exact this
  have step : ∀ k, k < j → ∀ hk : k < p0.length, (p0.take (k + 1)).flatMap ebE = (p0.take k).flatMap ebE ++ ebE p0[k] := fun k hkj hk => by
    rw [List.take_add_one, List.getElem?_eq_getElem hk, List.flatMap_append]; simp
  by_cases hjl : j = p0.length
  · refine iter_bind (fun k => (ofL ((p0.take k).flatMap ebE), (((p0.take k).flatMap ebE).length : Int), (k : Int))) (r := .inl (ofL (p0.flatMap ebE), ((p0.flatMap ebE).length : Int))) p0.length (by omega) (by simp; rfl) ?_ (fun k hk => ?_) ?_
    · dsimp only
      have hall : ∀ e ∈ p0, chkE e = 0 := by
        have := hpre j (Nat.le_refl _)
        rwa [hjl, List.take_length] at this
      rw [code_All_ebs p0 hall (by omega), obind]
      dsimp only
      have hb : (((ofL (p0.flatMap ebE)).size : Int) == ((p0.flatMap ebE).length : Int)) = true := by rw [bsize]; simp
      rw [eq00', ctrue, hb, ctrue, slices_Equal_Elem_eq _ _ (by omega) (by omega), obind, obind, decide_eq_true rfl]
    · dsimp only
      have hc := hgood k hk (by omega)
      have hs1 := hsz k (by omega)
      have hs2 := hsz (k + 1) (by omega)
      rw [step k (by omega) hk, List.length_append, ebE_length] at hs2
      have hv := val_len hc
      have hcat : scat (ofL ((p0.take k).flatMap ebE)) (ofL (ebE p0[k])) = some (ofL ((p0.take (k + 1)).flatMap ebE)) := by
        rw [scat_ofL (by rw [ebE_length]; omega), step k (by omega) hk]
      rw [decide_eq_true (show (k : Int) < (p0.length : Int) by omega), ctrue, idx_nat, List.getElem?_eq_getElem hk, obind, code_Write_eq, if_pos hc, obind]
      dsimp only
      rw [ne00', cfalse, hcat, obind, wrap64 (n := 18 + (p0[k].val.size : Int)) (by omega) (by omega), wrap64 (by omega) (by omega), wrap64 (by omega) (by omega), step k (by omega) hk, List.length_append, ebE_length]
      congr 1
    · dsimp only
      rw [decide_eq_false (show ¬ (p0.length : Int) < (p0.length : Int) by omega), List.take_length]
      rfl
  · have hjlt : j < p0.length := by omega
    refine iter_bind (fun k => (ofL ((p0.take k).flatMap ebE), (((p0.take k).flatMap ebE).length : Int), (k : Int))) (r := .inr true) j (by omega) (by simp; rfl) rfl (fun k hk => ?_) ?_
    · dsimp only
      have hkl : k < p0.length := by omega
      have hc := hgood k hkl hk
      have hs1 := hsz k (by omega)
      have hs2 := hsz (k + 1) (by omega)
      rw [step k hk hkl, List.length_append, ebE_length] at hs2
      have hv := val_len hc
      have hcat : scat (ofL ((p0.take k).flatMap ebE)) (ofL (ebE p0[k])) = some (ofL ((p0.take (k + 1)).flatMap ebE)) := by
        rw [scat_ofL (by rw [ebE_length]; omega), step k hk hkl]
      rw [decide_eq_true (show (k : Int) < (p0.length : Int) by omega), ctrue, idx_nat, List.getElem?_eq_getElem hkl, obind, code_Write_eq, if_pos hc, obind]
      dsimp only
      rw [ne00', cfalse, hcat, obind, wrap64 (n := 18 + (p0[k].val.size : Int)) (by omega) (by omega), wrap64 (by omega) (by omega), wrap64 (by omega) (by omega), step k hk hkl, List.length_append, ebE_length]
      congr 1
    · dsimp only
      have hbad : chkE p0[j] ≠ 0 := by
        have := List.findIdx_getElem (p := fun e => decide (chkE e ≠ 0)) (xs := p0) (w := by rw [hjd]; exact hjlt)
        simp only [hjd] at this
        simpa using this
      rw [decide_eq_true (show (j : Int) < (p0.length : Int) by omega), ctrue, idx_nat, List.getElem?_eq_getElem hjlt, obind, code_Write_eq, if_neg hbad, obind]
      dsimp only
      rw [show (chkE p0[j] != 0) = true by simpa using hbad, ctrue, elem_Check_eq, obind]
      simp
end Go.Proofs.Ytgpcpllkcehheaa
