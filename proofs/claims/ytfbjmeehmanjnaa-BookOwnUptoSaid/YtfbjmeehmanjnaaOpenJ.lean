/- Plain Lean: records as bytes. Its conditions: none. -/
import Derived.Test.YtfbjmeehmanjnaaFFrameJ
import Derived.Test.YtfbjmeehmanjnaaPKeyJ
import Derived.Test.YtfbjmeehmanjnaaStreamFJ
import Derived.Test.YtfbjmeehmanjnaaMStreamJ
import Derived.Test.YtfbjmeehmanjnaaPRunJ
import Derived.Test.YtfbjmeehmanjnaaRealmFJ
import Derived.Test.YtfbjmeehmanjnaaTurnFJ
import Derived.Test.YtfbjmeehmanjnaaSameFJ
import Derived.Test.YtfbjmeehmanjnaaUptoJ
import Derived.Test.YtfbjmeehmanjnaaLawJ
import Derived.Test.YtfbjmeehmanjnaaArrJ
import Derived.OpenShut
import Derived.Test.YtfbjmeehmanjnaaWBookOwnFJ
import Derived.Test.YtfbjmeehmanjnaaRows
namespace Go.Proofs.Ytfbjmeehmanjnaa
open Go.ChangeShapes
set_option linter.unusedVariables false
set_option linter.unusedSimpArgs false
variable {F : Nat} [Big F]
def eb (a b c d g : Nat) (v : List UInt8) : List UInt8 := bigL a 1 ++ (bigL b 4 ++ (bigL c 4 ++ (bigL d 4 ++ (bigL g 4 ++ (bigL v.length 1 ++ v)))))
def mkE (a b c d g : Nat) (v : List UInt8) : DElem := ⟨⟨a, b, c⟩, d, g, ofL v⟩
def Fit (a b c d g : Nat) (v : List UInt8) : Prop := a ≤ 15 ∧ b ≤ 1048576 ∧ c ≤ 1073741824 ∧ 1 ≤ d ∧ d ≤ 2147483647 ∧ (g = 0 ∨ d < g ∧ g ≤ 2147483647) ∧ v.length ≤ 40
theorem fit_of {e : DElem} (h : chkE e = 0) : ∃ a b c d g v, e = mkE a b c d g v ∧ Fit a b c d g v := by
 obtain ⟨⟨pfs, obj, off⟩, made, gone, val⟩ := e
 obtain ⟨v, rfl⟩ := exists_ofL val
 obtain ⟨h1, h2, h3, h4, h5⟩ := chkE_ok h
 unfold chkK at h1
 dsimp only at h1 h2 h3 h4 h5
 split at h1
 · cases h1
 · rename_i h1'
   refine ⟨pfs.toNat, obj.toNat, off.toNat, made.toNat, gone.toNat, v, ?_, by omega, by omega, by omega, by omega, by omega, by omega, h5⟩
   unfold mkE
   congr 1
   · congr 1 <;> omega
   · omega
   · omega
theorem chk_fit {a b c d g : Nat} {v : List UInt8} (h : Fit a b c d g v) : chkE (mkE a b c d g v) = 0 := by
 obtain ⟨h1, h2, h3, h4, h5, h6, h7⟩ := h
 unfold chkE chkK mkE
 dsimp only
 rw [if_neg (by rw [if_neg (by omega)]; simp), if_neg (by omega), if_neg (show ¬ 40 < (ofL v).size from (by omega : ¬ 40 < v.length))]
def sl (l : List UInt8) (a b : Nat) : List UInt8 := (l.take b).drop a
def zeroB : DElem := ⟨⟨0, 0, 0⟩, 0, 0, ofL []⟩
def gotE (l : List UInt8) : DElem := mkE (l.getD 0 0).toNat (valL (sl l 1 5)) (valL (sl l 5 9)) (valL (sl l 9 13)) (valL (sl l 13 17)) (sl l 18 (18 + (l.getD 17 0).toNat))
def cget (l : List UInt8) : DElem × Int × Int :=
 if l.length < 18 ∨ l.length < 18 + (l.getD 17 0).toNat then (zeroB, 0, 7)
 else if chkE (gotE l) ≠ 0 then (zeroB, 0, 3) else (gotE l, ((18 + (l.getD 17 0).toNat : Nat) : Int), 0)
theorem sl_ofL {l : List UInt8} {a b : Nat} (h : a ≤ b) (hb : b ≤ l.length) : sslice (ofL l) (a : Int) (b : Int) = some (ofL (sl l a b)) := by
 rw [sslice_ofL (by omega) (by omega) (by omega), Int.toNat_natCast, Int.toNat_natCast]; rfl
theorem sl_length {l : List UInt8} {a b : Nat} (hb : b ≤ l.length) : (sl l a b).length = b - a := by
 rw [sl, List.length_drop, List.length_take]; omega
theorem sidx_at {l : List UInt8} {k : Nat} (h : k < l.length) : sidx (ofL l) (k : Int) = some (l.getD k 0) := by
 rw [sidx_ofL, if_pos (by omega), Int.toNat_natCast, List.getD_eq_getElem?_getD, List.getElem?_eq_getElem h]; rfl
theorem code_Get_eq (l : List UInt8) : code_Get F (ofL l) = some (cget l) := by
 unfold code_Get cget
 have hb := (l.getD 17 0).toNat_lt
 have w1 : IntKind.i64.wrap ((l.getD 17 0).toNat : Int) = ((l.getD 17 0).toNat : Int) := wrap64 (by omega) (by omega)
 have w2 : IntKind.i64.wrap (18 + ((l.getD 17 0).toNat : Int)) = ((18 + (l.getD 17 0).toNat : Nat) : Int) := by rw [wrap64 (by omega) (by omega)]; omega
 by_cases h18 : l.length < 18
 · rw [if_pos (.inl h18), decide_eq_true (show ((ofL l).size : Int) < 18 from (by omega : (l.length : Int) < 18)), ctrue, obind, ctrue]; rfl
 · have hi17 : sidx (ofL l) 17 = some (l.getD 17 0) := sidx_at (k := 17) (by omega)
   have hi0 : sidx (ofL l) 0 = some (l.getD 0 0) := sidx_at (k := 0) (by omega)
   rw [decide_eq_false (show ¬ ((ofL l).size : Int) < 18 from (by omega : ¬ (l.length : Int) < 18)), cfalse, hi17, obind, w1, w2, obind]
   by_cases hn : l.length < 18 + (l.getD 17 0).toNat
   · rw [if_pos (.inr hn), decide_eq_true (show ((ofL l).size : Int) < ((18 + (l.getD 17 0).toNat : Nat) : Int) from (by omega : (l.length : Int) < _)), ctrue]; rfl
   · have g : ∀ x y : Nat, x ≤ y → y ≤ 17 → y - x ≤ 7 → big_Get F (ofL (sl l x y)) = some ((valL (sl l x y) : Nat) : Int) := fun x y h1 h2 h3 => big_Get_ofL _ (by rw [sl_length (by omega)]; exact h3)
     have s1 : sslice (ofL l) 1 5 = some (ofL (sl l 1 5)) := sl_ofL (a := 1) (b := 5) (by decide) (by omega)
     have s2 : sslice (ofL l) 5 9 = some (ofL (sl l 5 9)) := sl_ofL (a := 5) (b := 9) (by decide) (by omega)
     have s3 : sslice (ofL l) 9 13 = some (ofL (sl l 9 13)) := sl_ofL (a := 9) (b := 13) (by decide) (by omega)
     have s4 : sslice (ofL l) 13 17 = some (ofL (sl l 13 17)) := sl_ofL (a := 13) (b := 17) (by decide) (by omega)
     have s5 : sslice (ofL l) 18 ((18 + (l.getD 17 0).toNat : Nat) : Int) = some (ofL (sl l 18 (18 + (l.getD 17 0).toNat))) := sl_ofL (a := 18) (by omega) (by omega)
     have hb0 := (l.getD 0 0).toNat_lt
     rw [if_neg (by omega), decide_eq_false (show ¬ ((ofL l).size : Int) < ((18 + (l.getD 17 0).toNat : Nat) : Int) from (by omega : ¬ (l.length : Int) < _)), cfalse, hi0, obind, w1, w2, obind, s5, obind, s1, obind, g 1 5 (by decide) (by decide) (by decide), obind, obind,
      s2, obind, g 5 9 (by decide) (by decide) (by decide), obind, obind, s3, obind, g 9 13 (by decide) (by decide) (by decide), obind, obind, s4, obind, g 13 17 (by decide) (by decide) (by decide), obind, obind, elem_Check_eq, obind,
      wrap64 (n := ((l.getD 0 0).toNat : Int)) (by omega) (by omega)]
     have hgot : DElem.mk (DKey.mk ((l.getD 0 0).toNat : Int) ((valL (sl l 1 5) : Nat) : Int) ((valL (sl l 5 9) : Nat) : Int)) ((valL (sl l 9 13) : Nat) : Int) ((valL (sl l 13 17) : Nat) : Int) (ofL (sl l 18 (18 + (l.getD 17 0).toNat))) = gotE l := rfl
     rw [hgot]
     by_cases hc : chkE (gotE l) = 0
     · rw [hc, show ((0 : Int) != 0) = false by decide, cfalse, if_neg (by simp)]
     · rw [show (chkE (gotE l) != 0) = true by simpa using hc, ctrue, if_pos hc]; rfl
theorem eb_cget {l : List UInt8} (h : (cget l).2.2 = 0) : ∃ a b c d g v, Fit a b c d g v ∧ 18 + v.length ≤ l.length ∧ cget l = (mkE a b c d g v, ((18 + v.length : Nat) : Int), 0) ∧ eb a b c d g v = l.take (18 + v.length) := by
 unfold cget at h ⊢
 by_cases h1 : l.length < 18 ∨ l.length < 18 + (l.getD 17 0).toNat
 · rw [if_pos h1] at h; cases h
 rw [if_neg h1] at h ⊢
 by_cases h2 : chkE (gotE l) ≠ 0
 · rw [if_pos h2] at h; cases h
 rw [if_neg h2]
 have h3 : chkE (gotE l) = 0 := Decidable.not_not.1 h2
 have hfit : Fit (l.getD 0 0).toNat (valL (sl l 1 5)) (valL (sl l 5 9)) (valL (sl l 9 13)) (valL (sl l 13 17)) (sl l 18 (18 + (l.getD 17 0).toNat)) := by
  obtain ⟨a, b, c, d, g, v, he, hf⟩ := fit_of h3
  simp only [gotE, mkE, DElem.mk.injEq, DKey.mk.injEq, ofL_inj] at he
  obtain ⟨⟨ea, eb', ec⟩, ed, eg, ev⟩ := he
  rw [ev, show (l.getD 0 0).toNat = a by omega, show valL (sl l 1 5) = b by omega, show valL (sl l 5 9) = c by omega, show valL (sl l 9 13) = d by omega, show valL (sl l 13 17) = g by omega]
  exact hf
 have hn : (sl l 18 (18 + (l.getD 17 0).toNat)).length = (l.getD 17 0).toNat := by rw [sl_length (by omega)]; omega
 refine ⟨_, _, _, _, _, _, hfit, by rw [hn]; omega, by rw [hn]; rfl, ?_⟩
 rw [hn, eb, hn]
 have b1 : ∀ x : UInt8, bigL x.toNat 1 = [x] := fun x => by simp [bigL]
 have b4 : ∀ x : List UInt8, x.length = 4 → bigL (valL x) 4 = x := fun x hx => by have := big_val x; rwa [hx] at this
 rw [b1, b1, b4 _ (sl_length (by omega)), b4 _ (sl_length (by omega)), b4 _ (sl_length (by omega)), b4 _ (sl_length (by omega))]
 have ts : ∀ x y, x ≤ y → l.take y = l.take x ++ sl l x y := fun x y h => by
  have := List.take_append_drop x (l.take y)
  rw [List.take_take, Nat.min_eq_left h] at this
  exact this.symm
 have one : ∀ k, k < l.length → sl l k (k + 1) = [l.getD k 0] := fun k hk => by
  rw [sl, List.drop_take, Nat.add_sub_cancel_left, List.drop_eq_getElem_cons hk, List.getD_eq_getElem?_getD, List.getElem?_eq_getElem hk, List.take_succ_cons]
  rfl
 rw [ts 18 (18 + (l.getD 17 0).toNat) (by omega), ts 17 18 (by decide), ts 13 17 (by decide), ts 9 13 (by decide), ts 5 9 (by decide), ts 1 5 (by decide), ts 0 1 (by decide), List.take_zero, one 0 (by omega), one 17 (by omega)]
 simp only [List.nil_append, List.append_assoc]
def ebE (e : DElem) : List UInt8 := eb e.key.pfs.toNat e.key.obj.toNat e.key.off.toNat e.made.toNat e.gone.toNat e.val.data.toList
end Go.Proofs.Ytfbjmeehmanjnaa
/- Plain Lean: what the functions on streams compute. Its conditions: none. -/
namespace Go.Proofs.Ytfbjmeehmanjnaa
set_option linter.unusedVariables false
set_option linter.unusedSimpArgs false
variable {F : Nat} [Big F]
def lookE (p a b : Int) : Int := if p < 0 ∨ 15 < p then 1 else if a < 0 ∨ b < a ∨ 2147483647 < b then 9 else 0
theorem stream_look_eq (p a b : Int) : stream_look p a b = some (lookE p a b) := by
 unfold stream_look lookE
 simp only [Bool.cond_eq_ite, Bool.or_eq_true, decide_eq_true_eq]
 split
 · rfl
 · split <;> rfl
theorem lookE_zero {p a b : Int} : lookE p a b = 0 ↔ 0 ≤ p ∧ p ≤ 15 ∧ 0 ≤ a ∧ a ≤ b ∧ b ≤ 2147483647 := by
 unfold lookE
 split
 · constructor
   · intro h; cases h
   · omega
 · split
   · constructor
     · intro h; cases h
     · omega
   · constructor
     · omega
     · intro _; rfl
end Go.Proofs.Ytfbjmeehmanjnaa
/- Plain Lean: masters and slaves. Its conditions: none. -/
namespace Go.Proofs.Ytfbjmeehmanjnaa
set_option linter.unusedVariables false
set_option linter.unusedSimpArgs false
variable {F : Nat} [Big F]
def loP (l : List DElem) (p : Int) : List DElem := l.filter fun e => decide (e.key.pfs < p)
def atP (l : List DElem) (p : Int) : List DElem := l.filter fun e => e.key.pfs == p
def hiP (l : List DElem) (p : Int) : List DElem := l.filter fun e => decide (p < e.key.pfs)
theorem mem_loP {l : List DElem} {p : Int} {e : DElem} : e ∈ loP l p ↔ e ∈ l ∧ e.key.pfs < p := by simp [loP]
theorem mem_atP {l : List DElem} {p : Int} {e : DElem} : e ∈ atP l p ↔ e ∈ l ∧ e.key.pfs = p := by simp [atP]
theorem mem_hiP {l : List DElem} {p : Int} {e : DElem} : e ∈ hiP l p ↔ e ∈ l ∧ p < e.key.pfs := by simp [hiP]
theorem cmpK_pfs {a b : DKey} (h : cmpK a b ≤ 0) : a.pfs ≤ b.pfs := by
 rw [cmpK_def] at h
 by_cases h0 : ord a.pfs b.pfs = 0
 · have := (cmp_ord.zero _ _).1 h0; omega
 · rw [if_pos h0] at h
   exact ord_le.1 h
theorem parts3 : ∀ {l : List DElem} (p : Int), l.Pairwise Bef → l = loP l p ++ (atP l p ++ hiP l p)
 | [], _, _ => rfl
 | x :: l, p, h => by
  rw [List.pairwise_cons] at h
  have ih := parts3 p h.2
  have hle : ∀ y ∈ l, x.key.pfs ≤ y.key.pfs := fun y hy => cmpK_pfs (h.1 y hy).le
  unfold loP atP hiP at *
  rcases Int.lt_trichotomy x.key.pfs p with hx | hx | hx
  · rw [List.filter_cons_of_pos (by simpa using hx), List.filter_cons_of_neg (by simp; omega), List.filter_cons_of_neg (by simp; omega), List.cons_append, ← ih]
  · have hb : l.filter (fun e => decide (e.key.pfs < p)) = [] := by
     rw [List.filter_eq_nil_iff]; intro y hy hc
     have := hle y hy; simp at hc; omega
    rw [List.filter_cons_of_neg (by simp; omega), List.filter_cons_of_pos (by simpa using hx), List.filter_cons_of_neg (by simp; omega), hb]
    rw [hb, List.nil_append] at ih
    rw [List.nil_append, List.cons_append, ← ih]
  · have e1 : l.filter (fun e => decide (e.key.pfs < p)) = [] := by
     rw [List.filter_eq_nil_iff]; intro y hy hc
     have := hle y hy; simp at hc; omega
    have e2 : l.filter (fun e => e.key.pfs == p) = [] := by
     rw [List.filter_eq_nil_iff]; intro y hy hc
     have := hle y hy; simp at hc; omega
    have e3 : l.filter (fun e => decide (p < e.key.pfs)) = l := List.filter_eq_self.2 fun y hy => by have := hle y hy; simp; omega
    rw [List.filter_cons_of_neg (by simp; omega), List.filter_cons_of_neg (by simp; omega), List.filter_cons_of_pos (by simpa using hx), e1, e2, e3]; rfl
theorem parts_text {l : List DElem} (h : Run l) (p : Int) :
 ((iter (σ := Int) (ρ := Int) (fun x1 =>
  (
   bif decide (x1 < (l.length : Int)) then
    (idx l x1).bind fun e1 =>
    some (decide (e1.key.pfs < p))
    else
     some false : Option (Bool)).bind fun z5 =>
   bif z5 then
    some (.inl (IntKind.i64.wrap (x1 + 1)))
   else
    some (.inr x1)) F 0).bind fun z4 =>
  (iter (σ := Int) (ρ := Int) (fun x2 =>
   (
    bif decide (x2 < (l.length : Int)) then
     (idx l x2).bind fun e2 =>
     some (e2.key.pfs == p)
     else
      some false : Option (Bool)).bind fun z7 =>
    bif z7 then
     some (.inl (IntKind.i64.wrap (x2 + 1)))
    else
     some (.inr x2)) F z4).bind fun z6 =>
  (lslice l 0 z4).bind fun s1 =>
  (lslice l z4 z6).bind fun s2 =>
  (lslice l z6 (l.length : Int)).bind fun s3 =>
  some (s1, s2, s3) : Option ((List DElem) × (List DElem) × (List DElem))) = some (loP l p, atP l p, hiP l p) := by
 have hl := h.len
 have hs := parts3 p h.ord
 have hA : ∀ x ∈ loP l p, x.key.pfs < p := fun x hx => (mem_loP.1 hx).2
 have hM : ∀ x ∈ atP l p, x.key.pfs = p := fun x hx => (mem_atP.1 hx).2
 have hB : ∀ x ∈ hiP l p, p < x.key.pfs := fun x hx => (mem_hiP.1 hx).2
 generalize loP l p = A at hs hA
 generalize atP l p = M at hs hM
 generalize hiP l p = B at hs hB
 have hlen : l.length = A.length + (M.length + B.length) := by rw [hs, List.length_append, List.length_append]
 have at1 : ∀ k, k < A.length → ∃ e, l[k]? = some e ∧ e.key.pfs < p := fun k hk => by
  refine ⟨A[k], ?_, hA _ (List.getElem_mem hk)⟩
  rw [hs, List.getElem?_append_left hk, List.getElem?_eq_getElem hk]
 have at2 : ∀ k, k < M.length → ∃ e, l[A.length + k]? = some e ∧ e.key.pfs = p := fun k hk => by
  refine ⟨M[k], ?_, hM _ (List.getElem_mem hk)⟩
  rw [hs, List.getElem?_append_right (by omega), Nat.add_sub_cancel_left, List.getElem?_append_left hk, List.getElem?_eq_getElem hk]
 have at3 : ∀ k, k < B.length → ∃ e, l[A.length + M.length + k]? = some e ∧ p < e.key.pfs := fun k hk => by
  refine ⟨B[k], ?_, hB _ (List.getElem_mem hk)⟩
  rw [hs, List.getElem?_append_right (by omega), show A.length + M.length + k - A.length = M.length + k by omega, List.getElem?_append_right (by omega), Nat.add_sub_cancel_left, List.getElem?_eq_getElem hk]
 rw [loop_run (s := 0) (fun k => (k : Int)) A.length (r := (A.length : Int)) rfl (by omega) (fun k hk => ?_) ?_, Option.bind_some]
 · rw [loop_run (s := (A.length : Int)) (fun k => ((A.length + k : Nat) : Int)) M.length (r := ((A.length + M.length : Nat) : Int)) rfl (by omega) (fun k hk => ?_) ?_, Option.bind_some]
   · rw [lslice_to (by omega), Option.bind_some, lslice_ok (by omega) (by omega) (by omega), Option.bind_some, lslice_from (by omega), Option.bind_some, Int.toNat_natCast, Int.toNat_natCast]
     have e1 : l.take A.length = A := by rw [hs]; exact List.take_left
     have e2 : (l.take (A.length + M.length)).drop A.length = M := by
      rw [hs, ← List.append_assoc, List.take_left' (by rw [List.length_append]), List.drop_left]
     have e3 : l.drop (A.length + M.length) = B := by
      rw [hs, ← List.append_assoc, List.drop_left' (by rw [List.length_append])]
     rw [e1, e2, e3]
   · rcases Nat.eq_zero_or_pos B.length with h0 | h0
     · rw [decide_eq_false (by omega), cond_false, Option.bind_some, cond_false]
     · obtain ⟨e, he, hp⟩ := at3 0 h0
       rw [Nat.add_zero] at he
       rw [decide_eq_true (by omega), cond_true, idx_nat', he, Option.bind_some, Option.bind_some, show (e.key.pfs == p) = false by simp; omega, cond_false]
   · obtain ⟨e, he, hp⟩ := at2 k hk
     rw [decide_eq_true (by omega), cond_true, idx_nat', he, Option.bind_some, Option.bind_some, show (e.key.pfs == p) = true by simpa using hp, cond_true, w64 (by omega) (by omega)]
     rfl
 · rcases Nat.eq_zero_or_pos (M.length + B.length) with h0 | h0
   · rw [decide_eq_false (by omega), cond_false, Option.bind_some, cond_false]
   · have : ∃ e, l[A.length]? = some e ∧ ¬ e.key.pfs < p := by
      rcases Nat.eq_zero_or_pos M.length with h1 | h1
      · obtain ⟨e, he, hp⟩ := at3 0 (by omega)
        rw [h1] at he
        exact ⟨e, he, by omega⟩
      · obtain ⟨e, he, hp⟩ := at2 0 h1
        exact ⟨e, he, by omega⟩
     obtain ⟨e, he, hp⟩ := this
     rw [decide_eq_true (by omega), cond_true, idx_nat', he, Option.bind_some, Option.bind_some, decide_eq_false hp, cond_false]
 · obtain ⟨e, he, hp⟩ := at1 k hk
   rw [decide_eq_true (by omega), cond_true, idx_nat', he, Option.bind_some, Option.bind_some, decide_eq_true hp, cond_true, w64 (by omega) (by omega)]
   rfl
def zB : DBook := ⟨[], ⟨0, 0, 0, 0, 0, 0, 0, 0, 0, 0, 0, 0, 0, 0, 0, 0⟩, ⟨0, 0, 0, 0, 0, 0, 0, 0, 0, 0, 0, 0, 0, 0, 0, 0⟩⟩
def roleB (r f : Int) : Bool := decide (0 ≤ r) && (decide (r ≤ 2) && (decide (0 ≤ f) && (decide (f ≤ 2147483647) && (r == 2 || decide (f ≤ 0)))))
def rolesB (b : DBook) : Bool := (b.roles.list.zip b.fed.list).all fun x => roleB x.1 x.2
def roleAt (b : DBook) (p : Int) : Int := (b.roles.list[p.toNat]?).getD 0
def fedAt (b : DBook) (p : Int) : Int := (b.fed.list[p.toNat]?).getD 0
def elemB (b : DBook) (e : DElem) : Bool := roleAt b e.key.pfs != 0 && (roleAt b e.key.pfs != 2 || decide (lastE e ≤ fedAt b e.key.pfs))
def chkB (b : DBook) : Int := if chkR b.run ≠ 0 then chkR b.run else if (rolesB b && b.run.all (elemB b)) = true then 0 else 3
theorem idx_list (a : DA16) {p : Int} (h0 : 0 ≤ p) (h1 : p ≤ 15) : idx a.list p = some ((a.list[p.toNat]?).getD 0) := by
 unfold idx
 rw [if_neg (by omega)]
 have : p.toNat < a.list.length := by rw [DA16.list_length]; omega
 rw [List.getElem?_eq_getElem this]; rfl
theorem idx_role (b : DBook) {p : Int} (h0 : 0 ≤ p) (h1 : p ≤ 15) : idx b.roles.list p = some (roleAt b p) := idx_list _ h0 h1
theorem idx_fed (b : DBook) {p : Int} (h0 : 0 ≤ p) (h1 : p ≤ 15) : idx b.fed.list p = some (fedAt b p) := idx_list _ h0 h1
theorem pfs_ok {e : DElem} (h : chkE e = 0) : 0 ≤ e.key.pfs ∧ e.key.pfs ≤ 15 := by
 have := (chkE_ok h).1
 unfold chkK at this
 split at this
 · cases this
 · omega
theorem zip_all (a b : DA16) (w : Int → Int → Bool) : (∀ (k : Nat) (x : Int), a.list[k]? = some x → w x ((b.list[k]?).getD 0) = true) ↔ ((a.list.zip b.list).all fun x => w x.1 x.2) = true := by
 rw [List.all_eq_true]
 constructor
 · rintro h ⟨x, y⟩ hm
   obtain ⟨k, hk⟩ := List.mem_iff_getElem?.1 hm
   rw [List.getElem?_zip_eq_some] at hk
   have := h k x hk.1
   rw [hk.2] at this
   exact this
 · intro h k x hx
   have hk : k < 16 := by have := (List.getElem?_eq_some_iff.1 hx).1; rwa [DA16.list_length] at this
   have hy := List.getElem?_eq_getElem (show k < b.list.length by rw [DA16.list_length]; exact hk)
   rw [hy, Option.getD_some]
   exact h (x, b.list[k]) (List.mem_of_getElem? (i := k) (List.getElem?_zip_eq_some.2 ⟨hx, hy⟩))
def wR (b : DBook) (k : Nat) (r : Int) : Option (Unit ⊕ Int) := if roleB r ((b.fed.list[k]?).getD 0) then none else some (Sum.inr 3)
theorem realm_Check_eq (b : DBook) : realm_Check F b = some (chkB b) := by
 unfold realm_Check chkB
 rw [run_Check_eq, Option.bind_some]
 by_cases h : chkR b.run = 0
 · have hr := chkR_zero.1 h
   have hl := hr.len
   rw [bne0_false h, cond_false, if_neg (show ¬ chkR b.run ≠ 0 by simpa using h)]
   rw [loop_find b.roles.list (wR b) (.inl ()) (by rw [DA16.list_length]; omega) rfl (fun k r hk _ => ?_) (by rw [DA16.list_length]; rfl)]
   · by_cases hro : rolesB b = true
     · have hn : ((b.roles.list.zipIdx).findSome? fun p => wR b p.2 p.1) = none := by
        rw [find_none (w := wR b)]
        intro k r hk
        have := (zip_all b.roles b.fed roleB).2 hro k r hk
        unfold wR
        rw [if_pos this]
       rw [hn, Option.getD_none, Option.bind_some, hro, Bool.true_and]
       dsimp only
       rw [loop_first b.run (fun e => if elemB b e then none else some (Sum.inr 3)) (.inl ()) (by omega) rfl (fun k e hk => ?_) (by rw [decide_eq_false (by omega), cond_false])]
       · by_cases hel : b.run.all (elemB b) = true
         · have hn2 : b.run.findSome? (fun e => if elemB b e then none else some (Sum.inr 3 : Unit ⊕ Int)) = none := by
            rw [List.findSome?_eq_none_iff]
            intro e he
            rw [if_pos (List.all_eq_true.1 hel e he)]
           rw [hn2, if_pos hel]; rfl
         · rw [if_neg hel]
           have hn2 : b.run.findSome? (fun e => if elemB b e then none else some (Sum.inr 3 : Unit ⊕ Int)) = some (.inr 3) := by
            cases hf : b.run.findSome? (fun e => if elemB b e then none else some (Sum.inr 3 : Unit ⊕ Int)) with
            | none =>
             exfalso
             rw [List.findSome?_eq_none_iff] at hf
             apply hel
             rw [List.all_eq_true]
             intro e he
             have := hf e he
             split at this
             · assumption
             · cases this
            | some r =>
             obtain ⟨e, _, hr⟩ := List.exists_of_findSome?_eq_some hf
             split at hr
             · cases hr
             · exact hr.symm
           rw [hn2]; rfl
       · have hkl := (List.getElem?_eq_some_iff.1 hk).1
         obtain ⟨p0, p1⟩ := pfs_ok (hr.ok e (List.mem_of_getElem? hk))
         rw [decide_eq_true (by omega), cond_true, idx_nat', hk, Option.bind_some, idx_role b p0 p1, Option.bind_some, Option.bind_some, idx_fed b p0 p1, elem_Last_eq]
         unfold elemB
         generalize roleAt b e.key.pfs = r
         generalize fedAt b e.key.pfs = f
         rw [Option.bind_some, Option.bind_some]
         by_cases c0 : r = 0
         · rw [show (r == 0) = true by simpa using c0, cond_true, Option.bind_some, cond_true]
           simp [c0]
         · rw [show (r == 0) = false by simpa using c0, cond_false]
           by_cases c2 : r = 2
           · rw [show (r == 2) = true by simpa using c2, cond_true, Option.bind_some]
             by_cases c3 : f < lastE e
             · rw [decide_eq_true c3, cond_true]
               rw [if_neg (by simp [c2]; omega)]
             · rw [decide_eq_false c3, cond_false, w64 (by omega) (by omega), if_pos (by simp [c2]; omega)]
           · rw [show (r == 2) = false by simpa using c2, cond_false, Option.bind_some, cond_false, w64 (by omega) (by omega), if_pos (by simp [c0, c2])]
     · have hn : ((b.roles.list.zipIdx).findSome? fun p => wR b p.2 p.1) = some (.inr 3) := by
        cases hf : ((b.roles.list.zipIdx).findSome? fun p => wR b p.2 p.1) with
        | none =>
         exfalso
         rw [find_none (w := wR b)] at hf
         apply hro
         refine (zip_all b.roles b.fed roleB).1 fun k x hx => ?_
         have := hf k x hx
         unfold wR at this
         split at this
         · assumption
         · cases this
        | some r =>
         obtain ⟨k, e, _, hr⟩ := find_some (w := wR b) hf
         unfold wR at hr
         split at hr
         · cases hr
         · exact hr.symm
       rw [hn, if_neg (by rw [Bool.and_eq_true]; exact fun hh => hro hh.1)]; rfl
   · have hk16 : k < 16 := by have := (List.getElem?_eq_some_iff.1 hk).1; rwa [DA16.list_length] at this
     have hy := List.getElem?_eq_getElem (show k < b.fed.list.length by rw [DA16.list_length]; exact hk16)
     generalize b.fed.list[k]'(by rw [DA16.list_length]; exact hk16) = f at hy
     rw [decide_eq_true (by omega), cond_true, idx_nat', hk, Option.bind_some, idx_nat', hy, Option.bind_some, Option.bind_some, Option.bind_some]
     unfold wR roleB
     rw [hy, Option.getD_some]
     by_cases c1 : r < 0
     · rw [decide_eq_true c1, cond_true, Option.bind_some, cond_true, if_neg (by simp; omega)]
     · rw [decide_eq_false c1, cond_false]
       by_cases c2 : 2 < r
       · rw [decide_eq_true c2, cond_true, Option.bind_some, cond_true, if_neg (by simp; omega)]
       · rw [decide_eq_false c2, cond_false]
         by_cases c3 : f < 0
         · rw [decide_eq_true c3, cond_true, Option.bind_some, cond_true, if_neg (by simp; omega)]
         · rw [decide_eq_false c3, cond_false]
           by_cases c4 : 2147483647 < f
           · rw [decide_eq_true c4, cond_true, Option.bind_some, cond_true, if_neg (by simp; omega)]
           · rw [decide_eq_false c4, cond_false]
             by_cases c5 : r = 2
             · rw [show (r != 2) = false by simpa using c5, cond_false, Option.bind_some, cond_false, w64 (by omega) (by omega), if_pos (by simp; omega)]
             · rw [show (r != 2) = true by simpa using c5, cond_true, Option.bind_some]
               by_cases c6 : 0 < f
               · rw [decide_eq_true c6, cond_true, if_neg (by simp; omega)]
               · rw [decide_eq_false c6, cond_false, w64 (by omega) (by omega), if_pos (by simp; omega)]
 · rw [bne0_true h, cond_true, if_pos (show chkR b.run ≠ 0 from h)]
structure Book (b : DBook) : Prop where
 run : Run b.run
 role : ∀ p : Int, 0 ≤ p → p ≤ 15 → 0 ≤ roleAt b p ∧ roleAt b p ≤ 2 ∧ 0 ≤ fedAt b p ∧ fedAt b p ≤ 2147483647 ∧ (roleAt b p ≠ 2 → fedAt b p = 0)
 elem : ∀ e ∈ b.run, roleAt b e.key.pfs ≠ 0 ∧ (roleAt b e.key.pfs = 2 → lastE e ≤ fedAt b e.key.pfs)
theorem chkB_zero {b : DBook} : chkB b = 0 ↔ Book b := by
 unfold chkB
 by_cases h : chkR b.run = 0
 · rw [if_neg (show ¬ chkR b.run ≠ 0 by simpa using h)]
   have key : rolesB b = true ↔ ∀ p : Int, 0 ≤ p → p ≤ 15 → 0 ≤ roleAt b p ∧ roleAt b p ≤ 2 ∧ 0 ≤ fedAt b p ∧ fedAt b p ≤ 2147483647 ∧ (roleAt b p ≠ 2 → fedAt b p = 0) := by
    unfold rolesB
    rw [← zip_all]
    constructor
    · intro hr p p0 p1
      have hx := List.getElem?_eq_getElem (show p.toNat < b.roles.list.length by rw [DA16.list_length]; omega)
      have := hr p.toNat _ hx
      unfold roleAt fedAt
      rw [hx, Option.getD_some]
      unfold roleB at this
      simp at this
      omega
    · intro hr k x hx
      have hk : k < 16 := by have := (List.getElem?_eq_some_iff.1 hx).1; rwa [DA16.list_length] at this
      have := hr (k : Int) (by omega) (by omega)
      unfold roleAt fedAt at this
      rw [Int.toNat_natCast, hx, Option.getD_some] at this
      unfold roleB
      simp
      omega
   have key2 : b.run.all (elemB b) = true ↔ ∀ e ∈ b.run, roleAt b e.key.pfs ≠ 0 ∧ (roleAt b e.key.pfs = 2 → lastE e ≤ fedAt b e.key.pfs) := by
    rw [List.all_eq_true]
    constructor
    · intro hh e he
      have := hh e he
      unfold elemB at this
      simp only [Bool.and_eq_true, Bool.or_eq_true, bne_iff_ne, decide_eq_true_eq] at this
      exact ⟨this.1, fun h2 => by rcases this.2 with h3 | h3; exact absurd h2 h3; exact h3⟩
    · intro hh e he
      have := hh e he
      unfold elemB
      simp only [Bool.and_eq_true, Bool.or_eq_true, bne_iff_ne, decide_eq_true_eq]
      refine ⟨this.1, ?_⟩
      by_cases h2 : roleAt b e.key.pfs = 2
      · exact .inr (this.2 h2)
      · exact .inl h2
   constructor
   · intro hh
     split at hh
     · rename_i h1
       rw [Bool.and_eq_true, key, key2] at h1
       exact ⟨chkR_zero.1 h, h1.1, h1.2⟩
     · cases hh
   · rintro ⟨_, h1, h2⟩
     rw [if_pos (by rw [Bool.and_eq_true, key, key2]; exact ⟨h1, h2⟩)]
 · rw [if_pos (show chkR b.run ≠ 0 from h)]
   exact ⟨fun hh => absurd hh h, fun hh => absurd (chkR_zero.2 hh.run) h⟩
def lookB (b : DBook) (p : Int) : Int := if chkB b ≠ 0 then chkB b else if p < 0 ∨ 15 < p then 1 else 0
theorem lookB_zero {b : DBook} {p : Int} : lookB b p = 0 ↔ Book b ∧ 0 ≤ p ∧ p ≤ 15 := by
 unfold lookB
 rw [← chkB_zero]
 by_cases h : chkB b = 0
 · rw [if_neg (show ¬ chkB b ≠ 0 by simpa using h), and_iff_right h]
   split
   · constructor
     · intro h; cases h
     · omega
   · constructor
     · omega
     · intro _; rfl
 · rw [if_pos (show chkB b ≠ 0 from h)]
   exact ⟨fun hh => absurd hh h, fun hh => absurd hh.1 h⟩
theorem realm_look_eq (b : DBook) (p : Int) : realm_look F b p = some (lookB b p) := by
 unfold realm_look lookB
 rw [realm_Check_eq, Option.bind_some]
 by_cases h : chkB b = 0
 · rw [bne0_false h, cond_false, if_neg (show ¬ chkB b ≠ 0 by simpa using h)]
   simp only [Bool.cond_eq_ite, Bool.or_eq_true, decide_eq_true_eq]
   split <;> rfl
 · rw [bne0_true h, cond_true, if_pos (show chkB b ≠ 0 from h)]
theorem realm_copied_eq {b : DBook} (h : b.run.length ≤ 400) : realm_copied b = some b := by
 unfold realm_copied
 rw [grow_ok (by simp; omega) (by simp; omega), Option.bind_some]
 simp
def withB (b : DBook) (p : Int) (l : List DElem) : DBook × Int := if 400 < (loP b.run p).length + l.length + (hiP b.run p).length then (zB, 8) else (⟨loP b.run p ++ (l ++ hiP b.run p), b.roles, b.fed⟩, 0)
theorem realm_with_eq {b : DBook} (h : Run b.run) (p : Int) {l : List DElem} (hl : l.length ≤ 400) : realm_with F b p l = some (withB b p l) := by
 unfold realm_with withB
 have h1 : (loP b.run p).length ≤ 400 := Nat.le_trans (List.length_filter_le _ _) h.len
 have h2 : (hiP b.run p).length ≤ 400 := Nat.le_trans (List.length_filter_le _ _) h.len
 rw [parts_text h p, Option.bind_some]
 dsimp only
 rw [w64 (n := ((loP b.run p).length : Int) + (l.length : Int)) (by omega) (by omega), w64 (by omega) (by omega)]
 by_cases h4 : 400 < (loP b.run p).length + l.length + (hiP b.run p).length
 · rw [decide_eq_true (by omega), cond_true, if_pos h4]; rfl
 · rw [decide_eq_false (by omega), cond_false, if_neg h4, grow_ok (by simp; omega) (by simp; omega), Option.bind_some, grow_ok (by simp; omega) (by simp; omega), Option.bind_some, grow_ok (by simp; omega) (by simp; omega), Option.bind_some]
   simp
def putB (b : DBook) (k : DKey) (v : ByteArray) (t : Int) : DBook × Int :=
 if lookB b k.pfs ≠ 0 then (zB, lookB b k.pfs) else if roleAt b k.pfs ≠ 1 then (zB, 10)
 else if putE (atP b.run k.pfs) k v t ≠ 0 then (zB, putE (atP b.run k.pfs) k v t) else withB b k.pfs (putR (atP b.run k.pfs) k v t)
theorem realm_Put_eq (b : DBook) (k : DKey) (v : ByteArray) (t : Int) : realm_Put F b k v t = some (putB b k v t) := by
 unfold realm_Put putB
 rw [realm_look_eq, Option.bind_some]
 by_cases h : lookB b k.pfs = 0
 · obtain ⟨hb, p0, p1⟩ := lookB_zero.1 h
   rw [bne0_false h, cond_false, if_neg (show ¬ lookB b k.pfs ≠ 0 by simpa using h), idx_role b p0 p1, Option.bind_some]
   by_cases h1 : roleAt b k.pfs = 1
   · rw [show (roleAt b k.pfs != 1) = false by simpa using h1, cond_false, if_neg (show ¬ roleAt b k.pfs ≠ 1 by simpa using h1), parts_text hb.run k.pfs, Option.bind_some]
     dsimp only
     rw [run_Put_eq, Option.bind_some]
     by_cases h2 : putE (atP b.run k.pfs) k v t = 0
     · rw [if_pos h2]
       dsimp only
       rw [bne0_false h2, cond_false, if_neg (show ¬ putE (atP b.run k.pfs) k v t ≠ 0 by simpa using h2), realm_with_eq hb.run _ (putE_zero.1 h2).2.2.2]; rfl
     · rw [if_neg h2]
       dsimp only
       rw [bne0_true h2, cond_true, if_pos (show putE (atP b.run k.pfs) k v t ≠ 0 from h2)]; rfl
   · rw [show (roleAt b k.pfs != 1) = true by simpa using h1, cond_true, if_pos (show roleAt b k.pfs ≠ 1 from h1)]; rfl
 · rw [bne0_true h, cond_true, if_pos (show lookB b k.pfs ≠ 0 from h)]; rfl
def cutB (b : DBook) (k : DKey) (t : Int) : DBook × Int :=
 if lookB b k.pfs ≠ 0 then (zB, lookB b k.pfs) else if roleAt b k.pfs ≠ 1 then (zB, 10)
 else if cutE (atP b.run k.pfs) k t ≠ 0 then (zB, cutE (atP b.run k.pfs) k t) else withB b k.pfs (cutR (atP b.run k.pfs) k t)
theorem realm_Cut_eq (b : DBook) (k : DKey) (t : Int) : realm_Cut F b k t = some (cutB b k t) := by
 unfold realm_Cut cutB
 rw [realm_look_eq, Option.bind_some]
 by_cases h : lookB b k.pfs = 0
 · obtain ⟨hb, p0, p1⟩ := lookB_zero.1 h
   rw [bne0_false h, cond_false, if_neg (show ¬ lookB b k.pfs ≠ 0 by simpa using h), idx_role b p0 p1, Option.bind_some]
   by_cases h1 : roleAt b k.pfs = 1
   · rw [show (roleAt b k.pfs != 1) = false by simpa using h1, cond_false, if_neg (show ¬ roleAt b k.pfs ≠ 1 by simpa using h1), parts_text hb.run k.pfs, Option.bind_some]
     dsimp only
     rw [run_Cut_eq, Option.bind_some]
     by_cases h2 : cutE (atP b.run k.pfs) k t = 0
     · rw [if_pos h2]
       dsimp only
       obtain ⟨hr, h3, h4, h5, h6, _⟩ := cutE_zero.1 h2
       rw [bne0_false h2, cond_false, if_neg (show ¬ cutE (atP b.run k.pfs) k t ≠ 0 by simpa using h2), realm_with_eq hb.run _ (hr.cutR h6 h4 h5 k).len]; rfl
     · rw [if_neg h2]
       dsimp only
       rw [bne0_true h2, cond_true, if_pos (show cutE (atP b.run k.pfs) k t ≠ 0 from h2)]; rfl
   · rw [show (roleAt b k.pfs != 1) = true by simpa using h1, cond_true, if_pos (show roleAt b k.pfs ≠ 1 from h1)]; rfl
 · rw [bne0_true h, cond_true, if_pos (show lookB b k.pfs ≠ 0 from h)]; rfl
def upB (b : DBook) (p : Int) : DBook × Int :=
 if lookB b p ≠ 0 then (zB, lookB b p) else if roleAt b p ≠ 2 then (zB, 10) else (⟨b.run, b.roles.set p.toNat 1, b.fed.set p.toNat 0⟩, 0)
theorem realm_Up_eq (b : DBook) (p : Int) : realm_Up F b p = some (upB b p) := by
 unfold realm_Up upB
 rw [realm_look_eq, Option.bind_some]
 by_cases h : lookB b p = 0
 · obtain ⟨hb, p0, p1⟩ := lookB_zero.1 h
   rw [bne0_false h, cond_false, if_neg (show ¬ lookB b p ≠ 0 by simpa using h), idx_role b p0 p1, Option.bind_some]
   by_cases h1 : roleAt b p = 2
   · rw [show (roleAt b p != 2) = false by simpa using h1, cond_false, if_neg (show ¬ roleAt b p ≠ 2 by simpa using h1), realm_copied_eq hb.run.len, Option.bind_some, idx_role b p0 p1, Option.bind_some, idx_fed b p0 p1, Option.bind_some]
   · rw [show (roleAt b p != 2) = true by simpa using h1, cond_true, if_pos (show roleAt b p ≠ 2 from h1)]; rfl
 · rw [bne0_true h, cond_true, if_pos (show lookB b p ≠ 0 from h)]; rfl
def downB (b : DBook) (p : Int) : DBook × Int :=
 if lookB b p ≠ 0 then (zB, lookB b p) else if roleAt b p ≠ 1 then (zB, 10) else (⟨b.run, b.roles.set p.toNat 2, b.fed.set p.toNat (lastL (atP b.run p))⟩, 0)
theorem realm_Down_eq (b : DBook) (p : Int) : realm_Down F b p = some (downB b p) := by
 unfold realm_Down downB
 rw [realm_look_eq, Option.bind_some]
 by_cases h : lookB b p = 0
 · obtain ⟨hb, p0, p1⟩ := lookB_zero.1 h
   have ha : Run (atP b.run p) := hb.run.sub List.filter_sublist
   rw [bne0_false h, cond_false, if_neg (show ¬ lookB b p ≠ 0 by simpa using h), idx_role b p0 p1, Option.bind_some]
   by_cases h1 : roleAt b p = 1
   · rw [show (roleAt b p != 1) = false by simpa using h1, cond_false, if_neg (show ¬ roleAt b p ≠ 1 by simpa using h1), realm_copied_eq hb.run.len, Option.bind_some, parts_text hb.run p, Option.bind_some]
     dsimp only
     rw [run_Last_eq, Option.bind_some, idx_role b p0 p1, Option.bind_some, idx_fed b p0 p1, Option.bind_some, if_pos (chkR_zero.2 ha)]
   · rw [show (roleAt b p != 1) = true by simpa using h1, cond_true, if_pos (show roleAt b p ≠ 1 from h1)]; rfl
 · rw [bne0_true h, cond_true, if_pos (show lookB b p ≠ 0 from h)]; rfl
end Go.Proofs.Ytfbjmeehmanjnaa
/- Plain Lean: what the laws of books share. Its conditions: none. -/
namespace Go.Proofs.Ytfbjmeehmanjnaa
set_option linter.unusedVariables false
set_option linter.unusedSimpArgs false
variable {F : Nat} [Big F]
theorem Run.atP {l : List DElem} (h : Run l) (p : Int) : Run (Go.Proofs.Ytfbjmeehmanjnaa.atP l p) := h.sub List.filter_sublist
def bk : DBook := ⟨[], ⟨1, 2, 0, 0, 0, 0, 0, 0, 0, 0, 0, 0, 0, 0, 0, 0⟩, ⟨0, 0, 0, 0, 0, 0, 0, 0, 0, 0, 0, 0, 0, 0, 0, 0⟩⟩
theorem sameBook_eq (a b : DBook) (ha : a.run.length ≤ 9223372036854775807) : annalref_SameBook F a b = some (decide (a = b)) := by
 unfold annalref_SameBook
 rw [eqElem _ _ ha, Option.bind_some]
 obtain ⟨r, o, f⟩ := a
 obtain ⟨r', o', f'⟩ := b
 dsimp only
 by_cases h1 : r = r'
 · rw [decide_eq_true h1, cond_true]
   by_cases h2 : o = o'
   · rw [show (o == o') = true by simpa using h2, cond_true, Option.bind_some]
     congr 1
     rw [Bool.eq_iff_iff]
     simp [h1, h2]
   · rw [show (o == o') = false by simpa using h2, cond_false, Option.bind_some, decide_eq_false (fun h => h2 (DBook.mk.inj h).2.1)]
 · rw [decide_eq_false h1, cond_false, Option.bind_some, decide_eq_false (fun h => h1 (DBook.mk.inj h).1)]
end Go.Proofs.Ytfbjmeehmanjnaa
/- Plain Lean: streams as bytes, written and read. Its conditions: none. -/
namespace Go.Proofs.Ytfbjmeehmanjnaa
open Go.ChangeShapes
set_option linter.unusedVariables false
set_option linter.unusedSimpArgs false
variable {F : Nat} [Big F]
def foursB (ns : List Nat) : List UInt8 := ns.flatMap fun n => bigL n 4
theorem foursB_length : ∀ ns : List Nat, (foursB ns).length = 4 * ns.length
 | [] => rfl
 | n :: ns => by
  have := foursB_length ns
  unfold foursB at this ⊢
  rw [List.flatMap_cons, List.length_append, bigL_length, List.length_cons, this]; omega
theorem stream_fours_eq (ns : List Nat) (h : ns.length ≤ 1000) : stream_fours F (ns.map fun n : Nat => (n : Int)) = some (ofL (foursB ns)) := by
 unfold stream_fours
 have hl : (ns.map fun n : Nat => (n : Int)).length = ns.length := List.length_map ..
 rw [hl, loop_run (s := (ByteArray.mk #[], 0)) (fun k => (ofL (foursB (ns.take k)), (k : Int))) ns.length (r := ofL (foursB ns)) rfl (by omega) (fun k hk => ?_) ?_, Option.bind_some]
 · dsimp only
   rw [decide_eq_false (by omega), cond_false, List.take_length]
 · have hx := List.getElem?_eq_getElem hk
   generalize ns[k] = n at hx
   have hf := foursB_length (ns.take k)
   have ht : (ns.take k).length ≤ 1000 := by rw [List.length_take]; omega
   have hb := bigL_length n 4
   dsimp only
   rw [decide_eq_true (by omega), cond_true, idx_nat', List.getElem?_map, hx, Option.map_some, Option.bind_some, show (4 : Int) = ((4 : Nat) : Int) from rfl, big_Put_eq n 4 (by omega), Option.bind_some, scat_ofL (by omega), Option.bind_some, w64 (by omega) (by omega)]
   have e : foursB (ns.take (k + 1)) = foursB (ns.take k) ++ bigL n 4 := by
    unfold foursB
    rw [List.take_add_one, hx]; simp
   rw [e]; rfl
def zP : Dstream_Parsed := ⟨0, 0, 0, []⟩
def moreB (p a b : Int) (acc : List DElem) (B : List UInt8) : Bool :=
 (cget B).2.2 == 0 && ((cget B).2.1 == (B.length : Int) && ((cget B).1.key.pfs == p && (decide (a < lastE (cget B).1) && (decide (lastE (cget B).1 ≤ b) && (match acc.getLast? with | some q => decide (cmpS (spotE q) (spotE (cget B).1) < 0) | none => true)))))
def parseP (p a b : Int) : Nat → List DElem → List UInt8 → Dstream_Parsed × Int
 | 0, _, _ => (zP, 3)
 | m + 1, acc, l =>
  if (fget l).2.2 ≠ 0 then (zP, (fget l).2.2)
  else if (fget l).1.kind = 3 ∧ (fget l).1.body = ofL (foursB [acc.length]) ∧ (fget l).2.1 = (l.length : Int) then (⟨p, a, b, acc⟩, 0)
  else if (fget l).1.kind ≠ 2 ∨ moreB p a b acc (fget l).1.body.data.toList = false then (zP, 3)
  else parseP p a b m (acc ++ [(cget (fget l).1.body.data.toList).1]) (l.drop (fget l).2.1.toNat)
def parseR (l : List UInt8) : Dstream_Parsed × Int :=
 if (fget l).2.2 ≠ 0 then (zP, (fget l).2.2)
 else if (fget l).1.kind ≠ 1 ∨ (fget l).1.body.size ≠ 12 then (zP, 3)
 else if lookE (valL (sl (fget l).1.body.data.toList 0 4)) (valL (sl (fget l).1.body.data.toList 4 8)) (valL (sl (fget l).1.body.data.toList 8 12)) ≠ 0 then (zP, 3)
 else parseP (valL (sl (fget l).1.body.data.toList 0 4)) (valL (sl (fget l).1.body.data.toList 4 8)) (valL (sl (fget l).1.body.data.toList 8 12)) (l.length + 1) [] (l.drop (fget l).2.1.toNat)
theorem fget_ok {l : List UInt8} (h : (fget l).2.2 = 0) : ∃ (k n : Nat) (B : List UInt8), (fget l).1 = ⟨(k : Int), ofL B⟩ ∧ (fget l).2.1 = (n : Int) ∧ n = B.length + 5 ∧ B.length ≤ 3000 ∧ n ≤ l.length ∧ k ≤ 255 := by
 obtain ⟨k, B, g0, g1, g2, g3, g4, g5⟩ := fput_fget h
 exact ⟨k, _, B, by rw [g4], by rw [g4], rfl, g2, g3, g1⟩
theorem drop_ofL {l : List UInt8} {n : Nat} (h : n ≤ l.length) : sslice (ofL l) (n : Int) ((ofL l).size : Int) = some (ofL (l.drop n)) := by
 have := sl_ofL (l := l) (a := n) (b := l.length) h (Nat.le_refl _)
 rw [sl, List.take_length] at this
 exact this
theorem cget_ok' {l : List UInt8} (h : (cget l).2.2 = 0) : ∃ n : Nat, (cget l).2.1 = (n : Int) ∧ 18 ≤ n ∧ n ≤ l.length ∧ ebE (cget l).1 = l.take n ∧ chkE (cget l).1 = 0 := by
 obtain ⟨a, b, c, d, g, v, hf, h1, h2, h3⟩ := eb_cget h
 refine ⟨18 + v.length, by rw [h2], by omega, h1, by rw [h2]; exact h3, by rw [h2]; exact chk_fit hf⟩
theorem last_of {acc : List DElem} (h : acc ≠ []) : ∃ q, acc.getLast? = some q ∧ acc[acc.length - 1]? = some q := by
 rw [← List.getLast?_eq_getElem?]
 cases hq : acc.getLast? with
 | none => rw [List.getLast?_eq_none_iff] at hq; exact absurd hq h
 | some q => exact ⟨q, rfl, rfl⟩
theorem moreB_iff {p a b : Int} {acc : List DElem} {B : List UInt8} : moreB p a b acc B = true ↔ (cget B).2.2 = 0 ∧ (cget B).2.1 = (B.length : Int) ∧ (cget B).1.key.pfs = p ∧ a < lastE (cget B).1 ∧ lastE (cget B).1 ≤ b ∧ ∀ q, acc.getLast? = some q → SpO q (cget B).1 := by
 unfold moreB
 simp only [Bool.and_eq_true, beq_iff_eq, decide_eq_true_eq]
 cases acc.getLast? with
 | none => simp
 | some q => simp [SpO]
theorem stream_Parse_eq (l : List UInt8) (hl : l.length ≤ 2000000) : stream_Parse F (ofL l) = some (parseR l) := by
 unfold stream_Parse parseR
 rw [frame_Get_eq l (by omega), Option.bind_some]
 by_cases h : (fget l).2.2 = 0
 · obtain ⟨k, n, B, g1, g2, g3, g4, g5, g6⟩ := fget_ok h
   rw [bne0_false h, cond_false, if_neg (show ¬ (fget l).2.2 ≠ 0 by simpa using h), g1, g2]
   dsimp only
   rw [show (ofL B).data.toList = B from rfl, show (ofL B).size = B.length from rfl, Int.toNat_natCast]
   by_cases hk : (k : Int) ≠ 1 ∨ B.length ≠ 12
   · rw [if_pos hk]
     have : ((k : Int) != 1 || ((B.length : Int) != 12)) = true := by
      rw [Bool.or_eq_true, bne_iff_ne, bne_iff_ne]; omega
     rw [this, cond_true, Option.bind_some]
     dsimp only
     rw [Bool.not_false, cond_true]; rfl
   · rw [if_neg hk]
     have : ((k : Int) != 1 || ((B.length : Int) != 12)) = false := by
      rw [Bool.or_eq_false_iff, bne_eq_false_iff_eq, bne_eq_false_iff_eq]; omega
     have hB : B.length = 12 := by omega
     have s1 : sslice (ofL B) 0 4 = some (ofL (sl B 0 4)) := sl_ofL (a := 0) (b := 4) (by omega) (by omega)
     have s2 : sslice (ofL B) 4 8 = some (ofL (sl B 4 8)) := sl_ofL (a := 4) (b := 8) (by omega) (by omega)
     have s3 : sslice (ofL B) 8 12 = some (ofL (sl B 8 12)) := sl_ofL (a := 8) (b := 12) (by omega) (by omega)
     have b1 : big_Get F (ofL (sl B 0 4)) = some ((valL (sl B 0 4) : Nat) : Int) := big_Get_ofL _ (by rw [sl_length (by omega)]; omega)
     have b2 : big_Get F (ofL (sl B 4 8)) = some ((valL (sl B 4 8) : Nat) : Int) := big_Get_ofL _ (by rw [sl_length (by omega)]; omega)
     have b3 : big_Get F (ofL (sl B 8 12)) = some ((valL (sl B 8 12) : Nat) : Int) := big_Get_ofL _ (by rw [sl_length (by omega)]; omega)
     rw [this, cond_false, s1, Option.bind_some, b1, Option.bind_some, Option.bind_some, s2, Option.bind_some, b2, Option.bind_some, Option.bind_some, s3, Option.bind_some, b3, Option.bind_some, Option.bind_some, stream_look_eq, Option.bind_some, Option.bind_some]
     dsimp only
     generalize hp : ((valL (sl B 0 4) : Nat) : Int) = p
     generalize ha : ((valL (sl B 4 8) : Nat) : Int) = a
     generalize hb : ((valL (sl B 8 12) : Nat) : Int) = b
     by_cases h2 : lookE p a b = 0
     · rw [if_neg (show ¬ lookE p a b ≠ 0 by simpa using h2), show (lookE p a b == 0) = true by simpa using h2, Bool.not_true, cond_false]
       have hd : (l.drop n).length = l.length - n := List.length_drop
       refine loop_rec (R := fun m s q => ∃ acc k b' t n l, s = (acc, k, b', ofL t, n) ∧ sslice (ofL t) n ((ofL t).size : Int) = some (ofL l) ∧ l.length < m ∧ acc.length + l.length ≤ 2000000 ∧ q = parseP p a b m acc l) (fun m s q h => ?_) (m := l.length + 1) (by omega)
        ⟨[], _, _, l, _, l.drop n, rfl, drop_ofL g5, by omega, by simp; omega, rfl⟩
       obtain ⟨acc, k, b', t, n, l, rfl, ht, h1, h2, rfl⟩ := h
       obtain ⟨m, rfl⟩ : ∃ k, m = k + 1 := ⟨m - 1, by omega⟩
       dsimp only
       rw [ht, Option.bind_some, frame_Get_eq l (by omega), Option.bind_some, parseP]
       have hsz : (ofL l).size = l.length := rfl
       by_cases hz : (fget l).2.2 = 0
       · obtain ⟨k', n', B', g1, g2, g3, g4, g5, g6⟩ := fget_ok hz
         rw [bne0_false hz, cond_false, if_neg (show ¬ (fget l).2.2 ≠ 0 by simpa using hz), g1, g2, hsz]
         dsimp only
         rw [show (ofL B').data.toList = B' from rfl, Int.toNat_natCast]
         have hf : stream_fours F [(acc.length : Int)] = some (ofL (foursB [acc.length])) := stream_fours_eq (F := F) [acc.length] (by simp)
         have e1 : ((bif ((k' : Int) == 3) then (stream_fours F [(acc.length : Int)]).bind fun r8 => bif seq (ofL B') r8 then some ((n' : Int) == (l.length : Int)) else some false else some false) : Option Bool) = some (decide ((k' : Int) = 3 ∧ ofL B' = ofL (foursB [acc.length]) ∧ (n' : Int) = (l.length : Int))) := by
          rw [hf, Option.bind_some]
          by_cases c1 : (k' : Int) = 3
          · rw [show ((k' : Int) == 3) = true by simpa using c1, cond_true]
            by_cases c2 : ofL B' = ofL (foursB [acc.length])
            · rw [(seq_iff _ _).2 c2, cond_true]
              congr 1
              rw [Bool.eq_iff_iff, beq_iff_eq, decide_eq_true_eq]
              exact ⟨fun c3 => ⟨c1, c2, c3⟩, fun c3 => c3.2.2⟩
            · rw [show seq (ofL B') (ofL (foursB [acc.length])) = false by rw [Bool.eq_false_iff]; exact fun hh => c2 ((seq_iff _ _).1 hh), cond_false, decide_eq_false (fun hh => c2 hh.2.1)]
          · rw [show ((k' : Int) == 3) = false by simpa using c1, cond_false, decide_eq_false (fun hh => c1 hh.1)]
         rw [e1, Option.bind_some]
         by_cases hend : (k' : Int) = 3 ∧ ofL B' = ofL (foursB [acc.length]) ∧ (n' : Int) = (l.length : Int)
         · rw [decide_eq_true hend, cond_true, if_pos hend]
           exact .inl ⟨_, rfl, rfl⟩
         rw [decide_eq_false hend, cond_false, if_neg hend]
         by_cases hk2 : (k' : Int) = 2
         · rw [show ((k' : Int) != 2) = false by simpa using hk2, cond_false, code_Get_eq, Option.bind_some]
           have hbs : (ofL B').size = B'.length := rfl
           rw [hbs]
           have hmore : ((((bif ((cget B').2.2 != 0) then some true else bif ((cget B').2.1 != (B'.length : Int)) then some true else bif ((cget B').1.key.pfs != p) then some true else (elem_Last (cget B').1).bind fun r10 => bif decide (r10 ≤ a) then some true else (elem_Last (cget B').1).bind fun r11 => some (decide (b < r11))) : Option Bool).bind fun z13 =>
            bif z13 then some (acc, false) else (((bif decide ((0 : Int) < (acc.length : Int)) then (idx acc (IntKind.i64.wrap ((acc.length : Int) - 1))).bind fun e1 => (elem_Spot e1).bind fun r12 => (elem_Spot (cget B').1).bind fun r13 => (key_CmpSpot r12 r13).bind fun r14 => some (decide ((0 : Int) ≤ r14)) else some false) : Option Bool).bind fun z14 =>
             bif z14 then some (acc, false) else (grow 56 acc [(cget B').1]).bind fun _ => some ((acc ++ [(cget B').1]), true))) : Option (List DElem × Bool)) = some (if moreB p a b acc B' = true then (acc ++ [(cget B').1], true) else (acc, false)) := by
            rw [elem_Last_eq, Option.bind_some, Option.bind_some]
            by_cases c1 : (cget B').2.2 = 0
            · rw [bne0_false c1, cond_false]
              by_cases c2 : (cget B').2.1 = (B'.length : Int)
              · rw [show ((cget B').2.1 != (B'.length : Int)) = false by simpa using c2, cond_false]
                by_cases c3 : (cget B').1.key.pfs = p
                · rw [show ((cget B').1.key.pfs != p) = false by simpa using c3, cond_false]
                  by_cases c4 : a < lastE (cget B').1
                  · rw [decide_eq_false (show ¬ lastE (cget B').1 ≤ a by omega), cond_false, Option.bind_some]
                    by_cases c5 : lastE (cget B').1 ≤ b
                    · rw [decide_eq_false (show ¬ b < lastE (cget B').1 by omega), cond_false]
                      have hl23 : 23 ≤ l.length := by
                       obtain ⟨x, x1, x2, x3, _⟩ := cget_ok' c1
                       omega
                      have hgr : grow 56 acc [(cget B').1] = some (acc ++ [(cget B').1]) := grow_ok (by simp; omega) (by simp; omega)
                      by_cases c6 : acc = []
                      · rw [if_pos (moreB_iff.2 ⟨c1, c2, c3, c4, c5, fun q hq => by rw [c6] at hq; cases hq⟩)]
                        rw [decide_eq_false (show ¬ (0 : Int) < (acc.length : Int) by rw [c6]; simp), cond_false, Option.bind_some, cond_false, hgr, Option.bind_some]
                      · obtain ⟨q, q1, q2⟩ := last_of c6
                        have hpos := List.length_pos_iff.2 c6
                        rw [decide_eq_true (show (0 : Int) < (acc.length : Int) by omega), cond_true, w64 (by omega) (by omega), show (acc.length : Int) - 1 = ((acc.length - 1 : Nat) : Int) by omega, idx_nat', q2, Option.bind_some, elem_Spot_eq, Option.bind_some, elem_Spot_eq, Option.bind_some, key_CmpSpot_eq, Option.bind_some, Option.bind_some]
                        by_cases c7 : SpO q (cget B').1
                        · rw [if_pos (moreB_iff.2 ⟨c1, c2, c3, c4, c5, fun q' hq => by rw [q1] at hq; cases hq; exact c7⟩)]
                          unfold SpO at c7
                          rw [decide_eq_false (by omega), cond_false, hgr, Option.bind_some]
                        · rw [if_neg (fun hh => c7 ((moreB_iff.1 hh).2.2.2.2.2 q q1))]
                          unfold SpO at c7
                          rw [decide_eq_true (by omega), cond_true]
                    · rw [if_neg (fun hh => c5 (moreB_iff.1 hh).2.2.2.2.1), decide_eq_true (show b < lastE (cget B').1 by omega), cond_true]
                  · rw [if_neg (fun hh => c4 (moreB_iff.1 hh).2.2.2.1), decide_eq_true (show lastE (cget B').1 ≤ a by omega), cond_true, Option.bind_some, cond_true]
                · rw [if_neg (fun hh => c3 (moreB_iff.1 hh).2.2.1), show ((cget B').1.key.pfs != p) = true by simpa using c3, cond_true, Option.bind_some, cond_true]
              · rw [if_neg (fun hh => c2 (moreB_iff.1 hh).2.1), show ((cget B').2.1 != (B'.length : Int)) = true by simpa using c2, cond_true, Option.bind_some, cond_true]
            · rw [if_neg (fun hh => c1 (moreB_iff.1 hh).1), bne0_true c1, cond_true, Option.bind_some, cond_true]
           rw [hmore, Option.bind_some]
           by_cases hm : moreB p a b acc B' = true
           · rw [if_pos hm, if_neg (show ¬ ((k' : Int) ≠ 2 ∨ moreB p a b acc B' = false) by rw [hm]; simp; exact hk2)]
             dsimp only
             rw [Bool.not_true, Option.bind_some]
             dsimp only
             rw [cond_false]
             refine .inr ⟨m, _, by omega, rfl, _, _, _, _, _, _, rfl, drop_ofL g5, ?_, ?_, rfl⟩
             · rw [List.length_drop]; omega
             · rw [List.length_append, List.length_singleton, List.length_drop]; omega
           · rw [if_neg hm, if_pos (show (k' : Int) ≠ 2 ∨ moreB p a b acc B' = false from .inr (by simpa using hm))]
             dsimp only
             rw [Bool.not_false, Option.bind_some]
             dsimp only
             rw [cond_true]
             exact .inl ⟨_, rfl, rfl⟩
         · rw [show ((k' : Int) != 2) = true by simpa using hk2, cond_true, Option.bind_some, if_pos (show (k' : Int) ≠ 2 ∨ moreB p a b acc B' = false from .inl hk2)]
           dsimp only
           rw [cond_true]
           exact .inl ⟨_, rfl, rfl⟩
       · rw [bne0_true hz, cond_true, if_pos (show (fget l).2.2 ≠ 0 from hz)]
         exact .inl ⟨_, rfl, rfl⟩
     · rw [if_pos (show lookE p a b ≠ 0 from h2), show (lookE p a b == 0) = false by simpa using h2, Bool.not_false, cond_true]; rfl
 · rw [bne0_true h, cond_true, if_pos (show (fget l).2.2 ≠ 0 from h)]; rfl
structure Fresh (p a b : Int) (es : List DElem) : Prop where
 ok : ∀ e ∈ es, chkE e = 0
 pfs : ∀ e ∈ es, e.key.pfs = p
 last : ∀ e ∈ es, a < lastE e ∧ lastE e ≤ b
 ord : es.Pairwise SpO
end Go.Proofs.Ytfbjmeehmanjnaa
/- Plain Lean: streams are fed to runs. Its conditions: none. -/
namespace Go.Proofs.Ytfbjmeehmanjnaa
open Go.ChangeShapes
set_option linter.unusedVariables false
set_option linter.unusedSimpArgs false
variable {F : Nat} [Big F]
theorem stream_Merge_eq (l fresh : List DElem) (hs : l.Pairwise SpO) (hl : l.length ≤ 400) (hf : fresh.length ≤ 2000000) : stream_Merge F l fresh = some (mergeR l fresh) := by
 unfold stream_Merge
 rw [grow_ok (by simp; omega) (by simp; omega), Option.bind_some]
 rw [loop_run (fun k => (mergeR l (fresh.take k), (k : Int))) fresh.length (r := mergeR l fresh) (by simp [mergeR]) (by omega) (fun k hk => ?_) ?_, Option.bind_some]
 · dsimp only
   rw [decide_eq_false (by omega), cond_false, List.take_length]
 · have hx := List.getElem?_eq_getElem hk
   generalize fresh[k] = e at hx
   have hso := mergeR_sorted (fresh.take k) hs
   have hle := mergeR_length (fresh.take k) l
   have htl : (fresh.take k).length = k := by rw [List.length_take]; omega
   have hnext : mergeR l (fresh.take (k + 1)) = ins1 (mergeR l (fresh.take k)) e := by
    rw [List.take_add_one, hx]
    show mergeR l (fresh.take k ++ [e]) = _
    unfold mergeR
    rw [List.foldl_append]; rfl
   rw [hnext]
   generalize mergeR l (fresh.take k) = out at hso hle
   dsimp only
   rw [decide_eq_true (by omega), cond_true, idx_nat', hx, Option.bind_some]
   have hsp := spo_split (spotE e) hso
   have hA : ∀ x ∈ belowS out (spotE e), cmpS (spotE x) (spotE e) < 0 := fun x hx => (mem_belowS.1 hx).2
   have hB : ∀ x ∈ aboveS out (spotE e), 0 < cmpS (spotE x) (spotE e) := fun x hx => (mem_aboveS.1 hx).2
   have hM := spo_at (spotE e) hso
   generalize hq : out.filter (fun x => spotE x == spotE e) = M at hsp hM
   unfold ins1
   generalize belowS out (spotE e) = A at hsp hA
   generalize aboveS out (spotE e) = B at hsp hB
   have hlen : out.length = A.length + (M.length + B.length) := by rw [hsp, List.length_append, List.length_append]
   rw [loop_search (fun j => match out[j]? with | some x => decide (0 ≤ cmpS (spotE x) (spotE e)) | none => false) out.length A.length (by omega) (by omega) (fun j hj => ?_) (fun j h1 h2 => ?_) (fun i j hij hj => ?_) (fun i => by simp), Option.bind_some, Option.bind_some]
   · rcases hM with ⟨x, rfl, hxm, hxs⟩ | ⟨rfl, hne⟩
     ·
      have hox : out = A ++ x :: B := by rw [hsp]; rfl
      have hg := get_mid hox
      have hl1 : A.length < out.length := by rw [hlen, List.length_singleton]; omega
      rw [decide_eq_true (by omega), cond_true, idx_nat', hg, Option.bind_some, elem_Spot_eq, Option.bind_some, elem_Spot_eq, Option.bind_some, Option.bind_some, hxs, show (spotE e == spotE e) = true by simp, cond_true, Option.bind_some, Int.toNat_natCast, set_mid hox, Option.bind_some]
      rw [w64 (by omega) (by omega)]; rfl
     · have hox : out = A ++ B := by rw [hsp]; rfl
       have e1 : ((bif decide ((A.length : Int) < (out.length : Int)) then (idx out (A.length : Int)).bind fun e3 => (elem_Spot e3).bind fun r5 => (elem_Spot e).bind fun r6 => some (r5 == r6) else some false) : Option Bool) = some false := by
        by_cases hl1 : A.length < out.length
        · have hy := List.getElem?_eq_getElem hl1
          rw [decide_eq_true (by omega), cond_true, idx_nat', hy, Option.bind_some, elem_Spot_eq, Option.bind_some, elem_Spot_eq, Option.bind_some]
          have := hne _ (List.getElem_mem hl1)
          rw [show (spotE out[A.length] == spotE e) = false by simpa using this]
        · rw [decide_eq_false (by omega), cond_false]
       rw [e1, Option.bind_some, cond_false]
       generalize (DElem.mk (DKey.mk 0 0 0) 0 0 (ByteArray.mk #[])) = z
       rw [hox]
       have hlen2 : ((A ++ B) ++ [z]).length = A.length + B.length + 1 := by simp; omega
       simp only [List.length_nil, Nat.zero_add] at hlen
       rw [grow_ok (by simp; omega) (by simp; omega), Option.bind_some, w64 (n := (A.length : Int) + 1) (by omega) (by omega),
        show ((A.length : Int) + 1) = ((A.length + 1 : Nat) : Int) by omega, lslice_from (by omega), Option.bind_some, lslice_from (by omega), Option.bind_some, idx_nat', Int.toNat_natCast, Int.toNat_natCast, insert_shift]
       have hov : A.length < (over ((A ++ B) ++ [z]) (A.length + 1) ((((A ++ B) ++ [z]).drop A.length).take (((A ++ B) ++ [z]).drop (A.length + 1)).length)).length := by
        rw [over_length]
        · omega
        · simp; omega
       rw [List.getElem?_eq_getElem hov, Option.bind_some, Option.bind_some]
       rw [w64 (by omega) (by omega)]; rfl
   · rw [hsp, List.getElem?_append_left hj, List.getElem?_eq_getElem hj]
     have := hA _ (List.getElem_mem hj)
     simp only [decide_eq_false_iff_not]; omega
   · have h2' : j - A.length < (M ++ B).length := by rw [List.length_append]; omega
     rw [hsp, List.getElem?_append_right h1, List.getElem?_eq_getElem h2']
     have hm := List.getElem_mem h2'
     simp only [decide_eq_true_eq]
     rcases List.mem_append.1 hm with hm | hm
     · rcases hM with ⟨x, rfl, hxm, hxs⟩ | ⟨rfl, hne⟩
       · rw [List.mem_singleton.1 hm, hxs, cmp_cmpS.refl]; omega
       · simp at hm
     · have := hB _ hm; omega
   · have hm : (i + j) / 2 < out.length := by omega
     dsimp only
     rw [decide_eq_true (by omega), cond_true, search_mid (by omega) (by omega), idx_nat', List.getElem?_eq_getElem hm, Option.bind_some, elem_Spot_eq, Option.bind_some, elem_Spot_eq, Option.bind_some, key_CmpSpot_eq, Option.bind_some, Option.bind_some]
     dsimp only
     by_cases hp : 0 ≤ cmpS (spotE out[(i + j) / 2]) (spotE e)
     · rw [decide_eq_true hp]; rfl
     · rw [decide_eq_false hp, w64 (by omega) (by omega)]; rfl
theorem parseP_len (p a b : Int) : ∀ (m : Nat) (acc : List DElem) (l : List UInt8), (parseP p a b m acc l).1.elems.length ≤ acc.length + l.length
 | 0, acc, l => by rw [parseP]; simp [zP]
 | m + 1, acc, l => by
  rw [parseP]
  by_cases h0 : (fget l).2.2 = 0
  · obtain ⟨k, n, B, g1, g2, g3, g4, g5, g6⟩ := fget_ok h0
    rw [if_neg (by simpa using h0)]
    split
    · dsimp only; omega
    · split
      · simp [zP]
      · have := parseP_len p a b m (acc ++ [(cget (fget l).1.body.data.toList).1]) (l.drop (fget l).2.1.toNat)
        rw [List.length_append, List.length_singleton, List.length_drop, g2, Int.toNat_natCast] at this
        rw [g2, Int.toNat_natCast]
        omega
  · rw [if_pos h0]; simp [zP]
theorem parseR_len (l : List UInt8) : (parseR l).1.elems.length ≤ l.length := by
 unfold parseR
 split
 · simp [zP]
 · split
   · simp [zP]
   · split
     · simp [zP]
     · have := parseP_len (valL (sl (fget l).1.body.data.toList 0 4)) (valL (sl (fget l).1.body.data.toList 4 8)) (valL (sl (fget l).1.body.data.toList 8 12)) (l.length + 1) [] (l.drop (fget l).2.1.toNat)
       rw [List.length_drop, List.length_nil] at this
       omega
theorem stream_Feed_some {l : List DElem} (h : Run l) {b : List UInt8} (hb : b.length ≤ 2000000) (hp : (parseR b).2 = 0) : stream_Feed F l (ofL b) = some (if 400 < (mergeR l (parseR b).1.elems).length then ([], 8) else if chkR (mergeR l (parseR b).1.elems) ≠ 0 then ([], 3) else (mergeR l (parseR b).1.elems, 0)) := by
 unfold stream_Feed
 have hpl := parseR_len b
 rw [run_Check_eq, Option.bind_some, bne0_false (chkR_zero.2 h), cond_false, stream_Parse_eq b (by omega), Option.bind_some, bne0_false hp, cond_false, stream_Merge_eq l _ (spots_of h.ord) h.len (by omega), Option.bind_some]
 by_cases h4 : 400 < (mergeR l (parseR b).1.elems).length
 · rw [decide_eq_true (by omega), cond_true, if_pos h4]
 · rw [decide_eq_false (by omega), cond_false, if_neg h4, run_Check_eq, Option.bind_some]
   by_cases hc : chkR (mergeR l (parseR b).1.elems) = 0
   · rw [bne0_false hc, cond_false, if_neg (show ¬ chkR (mergeR l (parseR b).1.elems) ≠ 0 by simpa using hc)]
   · rw [bne0_true hc, cond_true, if_pos (show chkR (mergeR l (parseR b).1.elems) ≠ 0 from hc)]
end Go.Proofs.Ytfbjmeehmanjnaa
/- Arrays and books, opened. Its conditions: none. -/
namespace Go.Proofs.Ytfbjmeehmanjnaa
open Go.ChangeShapes Go.WideShapes Go.ChangeAt Go.RowKit
set_option linter.unusedVariables false
section
variable {P : Program} {t : TypeId}
def okA16 (x : DA16) : Prop := ∀ v ∈ x.list, okInt .i64 v
theorem opens_a16 {e : TypeId} (ht : P.underlying t = some (.array 16 e)) (he : P.underlying e = some (.int .i64)) (hc : P.cellsOf t = 16) (hce : P.cellsOf e = 1) : Opens P t eA16 okA16 := fun H enc w base sp held fuel cs x h hw => by
 obtain ⟨xs, m, _, _, hl, hxl, hg⟩ := DataW.trod_array ht h
 rw [hc] at hl
 have key : ∀ i, ∃ n : Int, i < 16 → cs[i]? = some (.int .i64 n) ∧ okInt .i64 n := fun i => by
  by_cases hi : i < 16
  · have h1 := hg i hi
    rw [hce, Nat.mul_one, List.getElem?_eq_getElem (by omega)] at h1
    obtain ⟨n, hr, _, hok⟩ := DataW.trod_int he h1
    refine ⟨n, fun _ => ⟨?_, hok⟩⟩
    have h2 : ((cs.drop i).take 1)[0]? = some (.int .i64 n) := by rw [hr]; rfl
    rw [List.getElem?_take, if_pos (by decide), List.getElem?_drop] at h2
    simpa using h2
  · exact ⟨0, fun h => absurd h hi⟩
 obtain ⟨f, hf⟩ := Classical.axiomOfChoice key
 refine ⟨⟨f 0, f 1, f 2, f 3, f 4, f 5, f 6, f 7, f 8, f 9, f 10, f 11, f 12, f 13, f 14, f 15⟩, ?_, ?_⟩
 · have hmap : cs = (List.range 16).map fun i => Value.int .i64 (f i) := by
    apply List.ext_getElem?
    intro i
    by_cases hi : i < 16
    · rw [(hf i hi).1, List.getElem?_map, List.getElem?_range hi]; rfl
    · rw [List.getElem?_eq_none (by omega), List.getElem?_eq_none (by simp; omega)]
   show cs = DA16.cells _
   rw [hmap]; rfl
 · intro v hv
   have hv' : v ∈ (List.range 16).map f := hv
   rw [List.mem_map] at hv'
   obtain ⟨i, hi, rfl⟩ := hv'
   exact (hf i (List.mem_range.1 hi)).2
def okBook (x : DBook) : Prop := (okAllW 56 okElem) x.run ∧ okA16 x.roles ∧ okA16 x.fed
theorem opens_book {f0 f1 f2 : Field} (ht : P.underlying t = some (.struct #[f0, f1, f2])) (hc : P.cellsOf t = 33)
 (o0 : f0.offset = 0) (c0 : P.cellsOf f0.type = 1) (h0 : Opens P f0.type (eList eElem) (okAllW 56 okElem))
 (o1 : f1.offset = 1) (c1 : P.cellsOf f1.type = 16) (h1 : Opens P f1.type eA16 okA16)
 (o2 : f2.offset = 17) (c2 : P.cellsOf f2.type = 16) (h2 : Opens P f2.type eA16 okA16) : Opens P t eBook okBook := fun H enc w base sp held fuel cs x h hw => by
 have hl := trod_len ht h
 obtain ⟨d0, r0, k0⟩ := part_opens ht h hw (i := 0) (f := f0) rfl h0
 obtain ⟨d1, r1, k1⟩ := part_opens ht h hw (i := 1) (f := f1) rfl h1
 obtain ⟨d2, r2, k2⟩ := part_opens ht h hw (i := 2) (f := f2) rfl h2
 rw [o0, c0] at r0
 rw [o1, c1] at r1
 rw [o2, c2] at r2
 have e : cs = (cs.drop 0).take 1 ++ ((cs.drop 1).take 16 ++ ((cs.drop 17).take 16 ++ cs.drop 33)) := by
  rw [← drop_seg cs 17 16, ← drop_seg cs 1 16, ← drop_seg cs 0 1]
  rfl
 obtain ⟨A1, z1, q1, s1⟩ := r0
 refine ⟨⟨d0, d1, d2⟩, ⟨A1, z1, ?_, s1⟩, ⟨k0, k1, k2⟩⟩
 rw [e, q1, show (cs.drop 1).take 16 = DA16.cells d1 from r1, show (cs.drop 17).take 16 = DA16.cells d2 from r2, List.drop_eq_nil_of_le (by omega), List.append_nil]
 rfl
end
end Go.Proofs.Ytfbjmeehmanjnaa
/- Plain Lean: the law BookOwn. Its conditions: a bound on the stream's length. -/
namespace Go.Proofs.Ytfbjmeehmanjnaa
set_option linter.unusedVariables false
set_option linter.unusedSimpArgs false
variable {F : Nat} [Big F]
theorem pw_at {α : Type} {R : α → α → Prop} {l : List α} (h : l.Pairwise R) {i j : Nat} (hij : i < j) {a b : α} (ha : l[i]? = some a) (hb : l[j]? = some b) : R a b := by
 obtain ⟨h1, rfl⟩ := List.getElem?_eq_some_iff.1 ha
 obtain ⟨h2, rfl⟩ := List.getElem?_eq_some_iff.1 hb
 exact List.pairwise_iff_getElem.1 h i j h1 h2 hij
theorem spo_snoc {l : List DElem} {e : DElem} (ho : l.Pairwise SpO) (h : ∀ q, l.getLast? = some q → SpO q e) : (l ++ [e]).Pairwise SpO := by
 refine List.pairwise_append.2 ⟨ho, List.pairwise_singleton _ _, fun x hx y hy => ?_⟩
 rw [List.mem_singleton.1 hy]
 obtain ⟨q, hq, _⟩ := last_of (List.ne_nil_of_mem hx)
 have hqe := h q hq
 obtain ⟨i, hi⟩ := List.mem_iff_getElem?.1 hx
 have hil := (List.getElem?_eq_some_iff.1 hi).1
 rw [List.getLast?_eq_getElem?] at hq
 by_cases hii : i = l.length - 1
 · rw [← hii, hi] at hq
   rw [Option.some.inj hq]; exact hqe
 · exact (pw_at ho (show i < l.length - 1 by omega) hi hq).trans hqe
theorem parseP_fresh (p a b : Int) : ∀ (m : Nat) (acc : List DElem) (l : List UInt8) (P : Dstream_Parsed), parseP p a b m acc l = (P, 0) → Fresh p a b acc → P.pfs = p ∧ P.from_ = a ∧ P.to = b ∧ Fresh p a b P.elems := by
 intro m
 induction m with
 | zero => intro acc l P h; rw [parseP] at h; cases h
 | succ m ih =>
  intro acc l P h hf
  rw [parseP] at h
  split at h
  · rename_i h1; exact absurd (congrArg Prod.snd h) h1
  · split at h
    · obtain ⟨rfl, _⟩ : (⟨p, a, b, acc⟩ : Dstream_Parsed) = P ∧ True := ⟨congrArg Prod.fst h, trivial⟩
      exact ⟨rfl, rfl, rfl, hf⟩
    · split at h
      · cases h
      · rename_i h3
        have hm : moreB p a b acc (fget l).1.body.data.toList = true := by
         cases hm : moreB p a b acc (fget l).1.body.data.toList with
         | true => rfl
         | false => exact absurd (.inr hm) h3
        obtain ⟨c1, c2, c3, c4, c5, c6⟩ := moreB_iff.1 hm
        obtain ⟨_, _, _, _, _, hck⟩ := cget_ok' c1
        refine ih _ _ P h ⟨fun e he => ?_, fun e he => ?_, fun e he => ?_, spo_snoc hf.ord c6⟩
        · rcases List.mem_append.1 he with he | he
          · exact hf.ok e he
          · rw [List.mem_singleton.1 he]; exact hck
        · rcases List.mem_append.1 he with he | he
          · exact hf.pfs e he
          · rw [List.mem_singleton.1 he]; exact c3
        · rcases List.mem_append.1 he with he | he
          · exact hf.last e he
          · rw [List.mem_singleton.1 he]; exact ⟨c4, c5⟩
theorem parse_fresh {l : List UInt8} {P : Dstream_Parsed} (h : parseR l = (P, 0)) : lookE P.pfs P.from_ P.to = 0 ∧ Fresh P.pfs P.from_ P.to P.elems := by
 unfold parseR at h
 split at h
 · rename_i h1; exact absurd (congrArg Prod.snd h) h1
 · split at h
   · cases h
   · split at h
     · cases h
     · rename_i h3
       obtain ⟨e1, e2, e3, e4⟩ := parseP_fresh _ _ _ _ _ _ P h ⟨by simp, by simp, by simp, List.Pairwise.nil⟩
       rw [e1, e2, e3] at *
       exact ⟨by simpa using h3, e4⟩
theorem withB_len (b : DBook) (p : Int) (l : List DElem) : (withB b p l).1.run.length ≤ 400 := by
 unfold withB
 split
 · exact Nat.zero_le _
 · show (loP b.run p ++ (l ++ hiP b.run p)).length ≤ 400
   rw [List.length_append, List.length_append]; omega
theorem putB_len (b : DBook) (k : DKey) (v : ByteArray) (t : Int) : (putB b k v t).1.run.length ≤ 400 := by
 unfold putB
 split
 · exact Nat.zero_le _
 · split
   · exact Nat.zero_le _
   · split
     · exact Nat.zero_le _
     · exact withB_len _ _ _
theorem cutB_len (b : DBook) (k : DKey) (t : Int) : (cutB b k t).1.run.length ≤ 400 := by
 unfold cutB
 split
 · exact Nat.zero_le _
 · split
   · exact Nat.zero_le _
   · split
     · exact Nat.zero_le _
     · exact withB_len _ _ _
theorem upB_len (b : DBook) (p : Int) : (upB b p).1.run.length ≤ 400 := by
 unfold upB
 split
 · exact Nat.zero_le _
 · rename_i h
   split
   · exact Nat.zero_le _
   · exact (lookB_zero.1 (Decidable.not_not.1 h)).1.run.len
theorem downB_len (b : DBook) (p : Int) : (downB b p).1.run.length ≤ 400 := by
 unfold downB
 split
 · exact Nat.zero_le _
 · rename_i h
   split
   · exact Nat.zero_le _
   · exact (lookB_zero.1 (Decidable.not_not.1 h)).1.run.len
theorem make_len (b : DBook) (p r : Int) : ∃ x, realm_Make F b p r = some x ∧ x.1.run.length ≤ 400 := by
 unfold realm_Make
 rw [realm_look_eq, Option.bind_some]
 by_cases h : lookB b p = 0
 · obtain ⟨hb, p0, p1⟩ := lookB_zero.1 h
   rw [bne0_false h, cond_false]
   cases ((r != 1) && (r != 2))
   · rw [cond_false, idx_role b p0 p1, Option.bind_some]
     cases (roleAt b p != 0)
     · rw [cond_false, realm_copied_eq hb.run.len, Option.bind_some, idx_role b p0 p1, Option.bind_some]
       exact ⟨_, rfl, hb.run.len⟩
     · rw [cond_true]; exact ⟨_, rfl, Nat.zero_le _⟩
   · rw [cond_true]; exact ⟨_, rfl, Nat.zero_le _⟩
 · rw [bne0_true h, cond_true]; exact ⟨_, rfl, Nat.zero_le _⟩
theorem feed_len (b : DBook) {l : List UInt8} (hl : l.length ≤ 1048576) : ∃ x, realm_Feed F b (ofL l) = some x ∧ x.1.run.length ≤ 400 := by
 unfold realm_Feed
 rw [realm_Check_eq, Option.bind_some]
 by_cases h1 : chkB b = 0
 rotate_left
 · rw [bne0_true h1, cond_true]; exact ⟨_, rfl, Nat.zero_le _⟩
 have hb := chkB_zero.1 h1
 rw [bne0_false h1, cond_false, stream_Parse_eq l (by omega), Option.bind_some]
 by_cases h2 : (parseR l).2 = 0
 rotate_left
 · rw [bne0_true h2, cond_true]; exact ⟨_, rfl, Nat.zero_le _⟩
 obtain ⟨P, hP⟩ : ∃ P, parseR l = (P, 0) := ⟨(parseR l).1, Prod.ext rfl h2⟩
 obtain ⟨hlk, hfr⟩ := parse_fresh hP
 obtain ⟨p0, p1, a0, ab, b1⟩ := lookE_zero.1 hlk
 rw [hP]
 dsimp only
 rw [bne0_false rfl, cond_false, idx_role b p0 p1, Option.bind_some]
 by_cases h3 : roleAt b P.pfs = 2
 rotate_left
 · rw [show (roleAt b P.pfs != 2) = true by simpa using h3, cond_true]; exact ⟨_, rfl, Nat.zero_le _⟩
 rw [show (roleAt b P.pfs != 2) = false by simpa using h3, cond_false, idx_fed b p0 p1, Option.bind_some]
 by_cases h4 : P.from_ = fedAt b P.pfs
 rotate_left
 · rw [show (P.from_ != fedAt b P.pfs) = true by simpa using h4, cond_true]; exact ⟨_, rfl, Nat.zero_le _⟩
 rw [show (P.from_ != fedAt b P.pfs) = false by simpa using h4, cond_false, stream_Feed_some hb.run (by omega) h2, hP, Option.bind_some]
 dsimp only
 by_cases h5 : 400 < (mergeR b.run P.elems).length
 · rw [if_pos h5]
   dsimp only
   rw [bne0_true (by decide), cond_true]; exact ⟨_, rfl, Nat.zero_le _⟩
 rw [if_neg h5]
 by_cases h6 : chkR (mergeR b.run P.elems) = 0
 rotate_left
 · rw [if_pos (show chkR (mergeR b.run P.elems) ≠ 0 from h6)]
   dsimp only
   rw [bne0_true (by decide), cond_true]; exact ⟨_, rfl, Nat.zero_le _⟩
 rw [if_neg (show ¬ chkR (mergeR b.run P.elems) ≠ 0 by simpa using h6)]
 dsimp only
 rw [bne0_false rfl, cond_false, Option.bind_some]
 exact ⟨_, rfl, Nat.le_of_not_lt h5⟩
theorem grow_le {l : List DElem} (h : l.length ≤ 400) : grow 56 ([] : List DElem) l = some l := by
 rw [grow_ok (by simp; omega) (by simp; omega)]; rfl
theorem annalkeep_BookOwn_true (F : Nat) [Big F] (b : DBook) (k : DKey) (v : ByteArray) (t : Int) (s : ByteArray) (k0 : okBook b) (k1 : okKey k) (k2 : okStr v) (k2_ : v.size ≤ reachBytes) (k3 : okInt .i64 t) (k4 : okStr s) (k4_ : s.size ≤ reachBytes) (b2 : v.size ≤ 1048576) (b4 : s.size ≤ 1048576) : annalkeep_BookOwn F b k v t s = some true := by
 have h56 : b.run.length * 56 ≤ reachBytes := k0.1.1
 unfold reachBytes at h56
 obtain ⟨l, rfl⟩ : ∃ l, s = ofL l := ⟨s.data.toList, by simp [ofL]⟩
 have hl : l.length ≤ 1048576 := b4
 unfold annalkeep_BookOwn
 obtain ⟨r3, e3, l3⟩ := make_len (F := F) b k.pfs 1
 have l5 := putB_len b k v t
 have l7 := cutB_len b k t
 obtain ⟨r9, e9, l9⟩ := feed_len (F := F) b hl
 have l11 := upB_len b k.pfs
 have l13 := downB_len b k.pfs
 have em : annalkeep_mark = some (DElem.mk (DKey.mk 0 0 0) 77 0 (ByteArray.mk #[109, 97, 114, 107])) := rfl
 have emk : makes 56 ((b.run.length : Int) + 3) = some () := by
  unfold makes
  rw [if_pos ⟨by omega, by omega, by unfold maxLen; omega⟩]
 have hp1 : putB bk (DKey.mk 0 0 0) (ByteArray.mk #[97]) 1 = (⟨[⟨⟨0, 0, 0⟩, 1, 0, ByteArray.mk #[97]⟩], bk.roles, bk.fed⟩, 0) := by decide
 have hbk : (annalkeep_book : Option DBook) = some bk := rfl
 rw [em, Option.bind_some, emk, Option.bind_some, e3, Option.bind_some, realm_Put_eq, Option.bind_some, realm_Cut_eq, Option.bind_some, e9, Option.bind_some, realm_Up_eq, Option.bind_some, realm_Down_eq, Option.bind_some, sameBook_eq _ _ (by omega), Option.bind_some, decide_eq_true rfl, Bool.not_true, cond_false, Option.bind_some, cond_false]
 generalize putB b k v t = r5 at l5 ⊢
 generalize cutB b k t = r7 at l7 ⊢
 generalize upB b k.pfs = r11 at l11 ⊢
 generalize downB b k.pfs = r13 at l13 ⊢
 rw [grow_le l13, Option.bind_some, grow_le l3, Option.bind_some, grow_le l5, Option.bind_some, grow_le l7, Option.bind_some, grow_le l9, Option.bind_some, grow_le l11, Option.bind_some]
 rw [eqElem _ _ (by omega), Option.bind_some, decide_eq_true rfl, Bool.not_true, cond_false]
 rw [eqElem _ _ (by omega), Option.bind_some, decide_eq_true rfl, Bool.not_true, cond_false]
 rw [eqElem _ _ (by omega), Option.bind_some, decide_eq_true rfl, Bool.not_true, cond_false]
 rw [eqElem _ _ (by omega), Option.bind_some, decide_eq_true rfl, Bool.not_true, cond_false]
 rw [eqElem _ _ (by omega), Option.bind_some, decide_eq_true rfl, Bool.not_true, cond_false]
 rw [eqElem _ _ (by omega), Option.bind_some, decide_eq_true rfl, Bool.not_true, cond_false]
 rw [hbk, Option.bind_some, realm_Put_eq, Option.bind_some, hp1]
 rfl
end Go.Proofs.Ytfbjmeehmanjnaa
/- The types of the parameters, opened: written by walkgen.py. Its conditions: none. -/
namespace Go.Proofs.Ytfbjmeehmanjnaa
open Go.RowKit
theorem prog_own : ownKnob Try.prog.godebug = none := by kernel_rfl
theorem prog_laid : laidOutB Try.prog = true := by kernel_rfl
theorem op27 : Opens Try.prog 27 eKey okKey := opens_key Try.underlying27 (by kernel_rfl) rfl (by kernel_rfl) (opens_int Try.underlying3) rfl (by kernel_rfl) (opens_int Try.underlying3) rfl (by kernel_rfl) (opens_int Try.underlying3)
theorem op30 : Opens Try.prog 30 eElem okElem := opens_elem Try.underlying30 (by kernel_rfl) rfl (by kernel_rfl) op27 rfl (by kernel_rfl) (opens_int Try.underlying3) rfl (by kernel_rfl) (opens_int Try.underlying3) rfl (by kernel_rfl) (opens_str Try.underlying9)
theorem op22 : Opens Try.prog 22 (eList eElem) (okAllW 56 okElem) := opens_list Try.underlying22 (by kernel_rfl) (by kernel_rfl) op30
theorem op25 : Opens Try.prog 25 eBook okBook := opens_book Try.underlying25 (by kernel_rfl) rfl (by kernel_rfl) op22 rfl (by kernel_rfl) (opens_a16 Try.underlying23 Try.underlying3 (by kernel_rfl) (by kernel_rfl)) rfl (by kernel_rfl) (opens_a16 Try.underlying23 Try.underlying3 (by kernel_rfl) (by kernel_rfl))
set_option maxRecDepth 100000
def orderSigns : List Char := [.ofNat 104, .ofNat 97, .ofNat 114, .ofNat 110, .ofNat 101, .ofNat 115, .ofNat 115, .ofNat 32, .ofNat 57, .ofNat 54, .ofNat 53, .ofNat 100, .ofNat 97, .ofNat 49, .ofNat 50, .ofNat 48, .ofNat 48, .ofNat 101, .ofNat 52, .ofNat 49, .ofNat 101, .ofNat 101, .ofNat 55, .ofNat 57, .ofNat 100, .ofNat 55, .ofNat 49, .ofNat 100, .ofNat 101, .ofNat 52, .ofNat 97, .ofNat 50, .ofNat 57, .ofNat 102, .ofNat 101, .ofNat 100, .ofNat 101, .ofNat 56, .ofNat 54, .ofNat 54, .ofNat 48, .ofNat 57, .ofNat 57, .ofNat 102, .ofNat 98, .ofNat 49, .ofNat 49, .ofNat 52, .ofNat 55, .ofNat 100, .ofNat 49, .ofNat 49, .ofNat 98, .ofNat 100, .ofNat 51, .ofNat 102, .ofNat 53, .ofNat 48, .ofNat 99, .ofNat 53, .ofNat 54, .ofNat 102, .ofNat 53, .ofNat 50, .ofNat 49, .ofNat 102, .ofNat 50, .ofNat 52, .ofNat 101, .ofNat 101, .ofNat 51, .ofNat 102, .ofNat 32, .ofNat 99, .ofNat 117, .ofNat 116, .ofNat 32, .ofNat 97, .ofNat 116, .ofNat 32, .ofNat 97, .ofNat 110, .ofNat 110, .ofNat 97, .ofNat 108, .ofNat 105, .ofNat 115, .ofNat 116, .ofNat 47, .ofNat 97, .ofNat 110, .ofNat 110, .ofNat 97, .ofNat 108, .ofNat 107, .ofNat 101, .ofNat 101, .ofNat 112, .ofNat 46, .ofNat 66, .ofNat 111, .ofNat 111, .ofNat 107, .ofNat 79, .ofNat 119, .ofNat 110]
theorem order_text : Try.prog.initOrder = "harness 965da1200e41ee79d71de4a29fede866099fb1147d11bd3f50c56f521f24ee3f cut at annalist/annalkeep.BookOwn" := by kernel_rfl
theorem order_signs : ("harness 965da1200e41ee79d71de4a29fede866099fb1147d11bd3f50c56f521f24ee3f cut at annalist/annalkeep.BookOwn" : String) = String.ofList orderSigns := by kernel_rfl
theorem prog_order : Try.prog.initOrder.toList = orderSigns := by rw [order_text, order_signs]; exact String.toList_ofList
theorem make_of (P : Program) (h : P.initOrder.toList = orderSigns) : P.make = some .cut := by
 unfold Program.make Program.headLifts
 rw [h]
 kernel_rfl
theorem lifts_of (P : Program) (h : P.initOrder.toList = orderSigns) : P.liftsFinal = false := by
 unfold Program.liftsFinal Program.headLifts
 rw [h]
 kernel_rfl
theorem enter_of (P : Program) (h : P.initOrder.toList = orderSigns) (h1 : P.laysLater = false) (h2 : P.bearsReflect = false) (h3 : P.doorFits [] = true) : P.mayEnter = true := by
 unfold Program.mayEnter
 rw [h, h1, h2]
 have e : (stripLifts liftWords (behindMainWord (wordsSigns orderSigns))).1 = [] := by kernel_rfl
 have e0 : behindMainWord (wordsSigns orderSigns) = "cut".toList :: (behindMainWord (wordsSigns orderSigns)).tail := by kernel_rfl
 rw [e0] at e ⊢
 dsimp only
 rw [e, h3]
 clear h h1 h2 h3
 change _ = true
 kernel_rfl
theorem prog_make : Try.prog.make = some .cut := make_of _ prog_order
theorem prog_lifts : Try.prog.liftsFinal = false := lifts_of _ prog_order
theorem prog_enter : Try.prog.mayEnter = true := enter_of _ prog_order (by kernel_rfl) (by kernel_rfl) (by kernel_rfl)
end Go.Proofs.Ytfbjmeehmanjnaa
