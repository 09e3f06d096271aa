/- Plain Lean: records as bytes. Its conditions: none. -/
import Derived.Test.YtdggcklddjndmaaFFrameJ
import Derived.Test.YtdggcklddjndmaaPKeyJ
namespace Go.Proofs.Ytdggcklddjndmaa
open Go.ChangeShapes
set_option linter.unusedVariables false
set_option linter.unusedSimpArgs false
variable {F : Nat} [Big F]
def eb (a b c d g : Nat) (v : List UInt8) : List UInt8 := bigL a 1 ++ (bigL b 4 ++ (bigL c 4 ++ (bigL d 4 ++ (bigL g 4 ++ (bigL v.length 1 ++ v)))))
def mkE (a b c d g : Nat) (v : List UInt8) : DElem := ⟨⟨a, b, c⟩, d, g, ofL v⟩
def Fit (a b c d g : Nat) (v : List UInt8) : Prop := a ≤ 15 ∧ b ≤ 1048576 ∧ c ≤ 1073741824 ∧ 1 ≤ d ∧ d ≤ 2147483647 ∧ (g = 0 ∨ d < g ∧ g ≤ 2147483647) ∧ v.length ≤ 40
theorem fit_of {e : DElem} (h : chkE e = 0) : ∃ a b c d g v, e = mkE a b c d g v ∧ Fit a b c d g v := by
 obtain ⟨⟨pfs, obj, off⟩, made, gone, val⟩ := e
 obtain ⟨v, rfl⟩ := exists_ofL val
 obtain ⟨h1, h2, h3, h4, h5⟩ := chkE_ok h
 unfold chkK at h1
 dsimp only at h1 h2 h3 h4 h5
 split at h1
 · cases h1
 · rename_i h1'
   refine ⟨pfs.toNat, obj.toNat, off.toNat, made.toNat, gone.toNat, v, ?_, by omega, by omega, by omega, by omega, by omega, by omega, h5⟩
   unfold mkE
   congr 1
   · congr 1 <;> omega
   · omega
   · omega
theorem chk_fit {a b c d g : Nat} {v : List UInt8} (h : Fit a b c d g v) : chkE (mkE a b c d g v) = 0 := by
 obtain ⟨h1, h2, h3, h4, h5, h6, h7⟩ := h
 unfold chkE chkK mkE
 dsimp only
 rw [if_neg (by rw [if_neg (by omega)]; simp), if_neg (by omega), if_neg (show ¬ 40 < (ofL v).size from (by omega : ¬ 40 < v.length))]
def sl (l : List UInt8) (a b : Nat) : List UInt8 := (l.take b).drop a
def zeroB : DElem := ⟨⟨0, 0, 0⟩, 0, 0, ofL []⟩
def gotE (l : List UInt8) : DElem := mkE (l.getD 0 0).toNat (valL (sl l 1 5)) (valL (sl l 5 9)) (valL (sl l 9 13)) (valL (sl l 13 17)) (sl l 18 (18 + (l.getD 17 0).toNat))
def cget (l : List UInt8) : DElem × Int × Int :=
 if l.length < 18 ∨ l.length < 18 + (l.getD 17 0).toNat then (zeroB, 0, 7)
 else if chkE (gotE l) ≠ 0 then (zeroB, 0, 3) else (gotE l, ((18 + (l.getD 17 0).toNat : Nat) : Int), 0)
theorem sl_ofL {l : List UInt8} {a b : Nat} (h : a ≤ b) (hb : b ≤ l.length) : sslice (ofL l) (a : Int) (b : Int) = some (ofL (sl l a b)) := by
 rw [sslice_ofL (by omega) (by omega) (by omega), Int.toNat_natCast, Int.toNat_natCast]; rfl
theorem sl_length {l : List UInt8} {a b : Nat} (hb : b ≤ l.length) : (sl l a b).length = b - a := by
 rw [sl, List.length_drop, List.length_take]; omega
theorem sidx_at {l : List UInt8} {k : Nat} (h : k < l.length) : sidx (ofL l) (k : Int) = some (l.getD k 0) := by
 rw [sidx_ofL, if_pos (by omega), Int.toNat_natCast, List.getD_eq_getElem?_getD, List.getElem?_eq_getElem h]; rfl
theorem code_Get_eq (l : List UInt8) : code_Get F (ofL l) = some (cget l) := by
 unfold code_Get cget
 have hb := (l.getD 17 0).toNat_lt
 have w1 : IntKind.i64.wrap ((l.getD 17 0).toNat : Int) = ((l.getD 17 0).toNat : Int) := wrap64 (by omega) (by omega)
 have w2 : IntKind.i64.wrap (18 + ((l.getD 17 0).toNat : Int)) = ((18 + (l.getD 17 0).toNat : Nat) : Int) := by rw [wrap64 (by omega) (by omega)]; omega
 by_cases h18 : l.length < 18
 · rw [if_pos (.inl h18), decide_eq_true (show ((ofL l).size : Int) < 18 from (by omega : (l.length : Int) < 18)), ctrue, obind, ctrue]; rfl
 · have hi17 : sidx (ofL l) 17 = some (l.getD 17 0) := sidx_at (k := 17) (by omega)
   have hi0 : sidx (ofL l) 0 = some (l.getD 0 0) := sidx_at (k := 0) (by omega)
   rw [decide_eq_false (show ¬ ((ofL l).size : Int) < 18 from (by omega : ¬ (l.length : Int) < 18)), cfalse, hi17, obind, w1, w2, obind]
   by_cases hn : l.length < 18 + (l.getD 17 0).toNat
   · rw [if_pos (.inr hn), decide_eq_true (show ((ofL l).size : Int) < ((18 + (l.getD 17 0).toNat : Nat) : Int) from (by omega : (l.length : Int) < _)), ctrue]; rfl
   · have g : ∀ x y : Nat, x ≤ y → y ≤ 17 → y - x ≤ 7 → big_Get F (ofL (sl l x y)) = some ((valL (sl l x y) : Nat) : Int) := fun x y h1 h2 h3 => big_Get_ofL _ (by rw [sl_length (by omega)]; exact h3)
     have s1 : sslice (ofL l) 1 5 = some (ofL (sl l 1 5)) := sl_ofL (a := 1) (b := 5) (by decide) (by omega)
     have s2 : sslice (ofL l) 5 9 = some (ofL (sl l 5 9)) := sl_ofL (a := 5) (b := 9) (by decide) (by omega)
     have s3 : sslice (ofL l) 9 13 = some (ofL (sl l 9 13)) := sl_ofL (a := 9) (b := 13) (by decide) (by omega)
     have s4 : sslice (ofL l) 13 17 = some (ofL (sl l 13 17)) := sl_ofL (a := 13) (b := 17) (by decide) (by omega)
     have s5 : sslice (ofL l) 18 ((18 + (l.getD 17 0).toNat : Nat) : Int) = some (ofL (sl l 18 (18 + (l.getD 17 0).toNat))) := sl_ofL (a := 18) (by omega) (by omega)
     have hb0 := (l.getD 0 0).toNat_lt
     rw [if_neg (by omega), decide_eq_false (show ¬ ((ofL l).size : Int) < ((18 + (l.getD 17 0).toNat : Nat) : Int) from (by omega : ¬ (l.length : Int) < _)), cfalse, hi0, obind, w1, w2, obind, s5, obind, s1, obind, g 1 5 (by decide) (by decide) (by decide), obind, obind,
      s2, obind, g 5 9 (by decide) (by decide) (by decide), obind, obind, s3, obind, g 9 13 (by decide) (by decide) (by decide), obind, obind, s4, obind, g 13 17 (by decide) (by decide) (by decide), obind, obind, elem_Check_eq, obind,
      wrap64 (n := ((l.getD 0 0).toNat : Int)) (by omega) (by omega)]
     have hgot : DElem.mk (DKey.mk ((l.getD 0 0).toNat : Int) ((valL (sl l 1 5) : Nat) : Int) ((valL (sl l 5 9) : Nat) : Int)) ((valL (sl l 9 13) : Nat) : Int) ((valL (sl l 13 17) : Nat) : Int) (ofL (sl l 18 (18 + (l.getD 17 0).toNat))) = gotE l := rfl
     rw [hgot]
     by_cases hc : chkE (gotE l) = 0
     · rw [hc, show ((0 : Int) != 0) = false by decide, cfalse, if_neg (by simp)]
     · rw [show (chkE (gotE l) != 0) = true by simpa using hc, ctrue, if_pos hc]; rfl
theorem eb_cget {l : List UInt8} (h : (cget l).2.2 = 0) : ∃ a b c d g v, Fit a b c d g v ∧ 18 + v.length ≤ l.length ∧ cget l = (mkE a b c d g v, ((18 + v.length : Nat) : Int), 0) ∧ eb a b c d g v = l.take (18 + v.length) := by
 unfold cget at h ⊢
 by_cases h1 : l.length < 18 ∨ l.length < 18 + (l.getD 17 0).toNat
 · rw [if_pos h1] at h; cases h
 rw [if_neg h1] at h ⊢
 by_cases h2 : chkE (gotE l) ≠ 0
 · rw [if_pos h2] at h; cases h
 rw [if_neg h2]
 have h3 : chkE (gotE l) = 0 := Decidable.not_not.1 h2
 have hfit : Fit (l.getD 0 0).toNat (valL (sl l 1 5)) (valL (sl l 5 9)) (valL (sl l 9 13)) (valL (sl l 13 17)) (sl l 18 (18 + (l.getD 17 0).toNat)) := by
  obtain ⟨a, b, c, d, g, v, he, hf⟩ := fit_of h3
  simp only [gotE, mkE, DElem.mk.injEq, DKey.mk.injEq, ofL_inj] at he
  obtain ⟨⟨ea, eb', ec⟩, ed, eg, ev⟩ := he
  rw [ev, show (l.getD 0 0).toNat = a by omega, show valL (sl l 1 5) = b by omega, show valL (sl l 5 9) = c by omega, show valL (sl l 9 13) = d by omega, show valL (sl l 13 17) = g by omega]
  exact hf
 have hn : (sl l 18 (18 + (l.getD 17 0).toNat)).length = (l.getD 17 0).toNat := by rw [sl_length (by omega)]; omega
 refine ⟨_, _, _, _, _, _, hfit, by rw [hn]; omega, by rw [hn]; rfl, ?_⟩
 rw [hn, eb, hn]
 have b1 : ∀ x : UInt8, bigL x.toNat 1 = [x] := fun x => by simp [bigL]
 have b4 : ∀ x : List UInt8, x.length = 4 → bigL (valL x) 4 = x := fun x hx => by have := big_val x; rwa [hx] at this
 rw [b1, b1, b4 _ (sl_length (by omega)), b4 _ (sl_length (by omega)), b4 _ (sl_length (by omega)), b4 _ (sl_length (by omega))]
 have ts : ∀ x y, x ≤ y → l.take y = l.take x ++ sl l x y := fun x y h => by
  have := List.take_append_drop x (l.take y)
  rw [List.take_take, Nat.min_eq_left h] at this
  exact this.symm
 have one : ∀ k, k < l.length → sl l k (k + 1) = [l.getD k 0] := fun k hk => by
  rw [sl, List.drop_take, Nat.add_sub_cancel_left, List.drop_eq_getElem_cons hk, List.getD_eq_getElem?_getD, List.getElem?_eq_getElem hk, List.take_succ_cons]
  rfl
 rw [ts 18 (18 + (l.getD 17 0).toNat) (by omega), ts 17 18 (by decide), ts 13 17 (by decide), ts 9 13 (by decide), ts 5 9 (by decide), ts 1 5 (by decide), ts 0 1 (by decide), List.take_zero, one 0 (by omega), one 17 (by omega)]
 simp only [List.nil_append, List.append_assoc]
def ebE (e : DElem) : List UInt8 := eb e.key.pfs.toNat e.key.obj.toNat e.key.off.toNat e.made.toNat e.gone.toNat e.val.data.toList
end Go.Proofs.Ytdggcklddjndmaa
