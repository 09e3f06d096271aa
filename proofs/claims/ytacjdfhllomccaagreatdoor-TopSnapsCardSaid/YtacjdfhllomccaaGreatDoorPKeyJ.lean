/- Plain Lean: keys and records. Its conditions: none. -/
import Derived.Test.YtacjdfhllomccaaGreatDoorKeyFJ
import Derived.Test.YtacjdfhllomccaaGreatDoorLawJ
namespace Go.Proofs.YtacjdfhllomccaaGreatDoor
set_option linter.unusedVariables false
set_option linter.unusedSimpArgs false
def ord (a b : Int) : Int := if a < b then -1 else if b < a then 1 else 0
theorem key_order_eq (a b : Int) : key_order a b = some (ord a b) := by
 unfold key_order ord
 simp only [Bool.cond_eq_ite, decide_eq_true_eq]
 split
 · rfl
 · split <;> rfl
structure Cmp {α : Type} (f : α → α → Int) : Prop where
 one : ∀ a b, f a b = -1 ∨ f a b = 0 ∨ f a b = 1
 neg : ∀ a b, f a b = - f b a
 zero : ∀ a b, f a b = 0 ↔ a = b
 trans : ∀ a b c, f a b ≤ 0 → f b c ≤ 0 → f a c ≤ 0
theorem cmp_ord : Cmp ord := by
 refine ⟨fun a b => ?_, fun a b => ?_, fun a b => ?_, fun a b c => ?_⟩ <;> unfold ord <;> (repeat' split) <;> omega
def lex {α β γ : Type} (p : γ → α) (q : γ → β) (f : α → α → Int) (g : β → β → Int) (x y : γ) : Int := if f (p x) (p y) ≠ 0 then f (p x) (p y) else g (q x) (q y)
theorem Cmp.lexic {α β γ : Type} {p : γ → α} {q : γ → β} {f : α → α → Int} {g : β → β → Int} (hf : Cmp f) (hg : Cmp g) (hpq : ∀ x y, p x = p y → q x = q y → x = y) : Cmp (lex p q f g) := by
 have le : ∀ x y, lex p q f g x y ≤ 0 ↔ (f (p x) (p y) < 0 ∨ f (p x) (p y) = 0 ∧ g (q x) (q y) ≤ 0) := fun x y => by
  unfold lex
  split <;> omega
 refine ⟨fun a b => ?_, fun a b => ?_, fun a b => ?_, fun a b c h1 h2 => ?_⟩
 · unfold lex
   split
   · exact hf.one _ _
   · exact hg.one _ _
 · have h1 := hf.neg (p a) (p b)
   have h2 := hg.neg (q a) (q b)
   unfold lex
   split <;> split <;> omega
 · unfold lex
   split
   · rename_i h
     refine ⟨fun h' => absurd h' h, fun h' => ?_⟩
     subst h'
     exact absurd ((hf.zero _ _).2 rfl) h
   · rename_i h
     have h0 : p a = p b := (hf.zero _ _).1 (by omega)
     rw [hg.zero]
     exact ⟨hpq a b h0, fun h' => by rw [h']⟩
 · rw [le] at h1 h2 ⊢
   have ht := hf.trans (p a) (p b) (p c) (by omega) (by omega)
   rcases Int.lt_or_eq_of_le ht with h | h
   · exact .inl h
   · right
     refine ⟨h, ?_⟩
     have hac := (hf.zero _ _).1 h
     have h3 := hf.neg (p a) (p b)
     rw [hac] at h1 h3
     have h4 : f (p c) (p b) = 0 := by omega
     have h5 : f (p b) (p c) = 0 := by omega
     exact hg.trans _ (q b) _ (by omega) (by omega)
def cmpK : DKey → DKey → Int := lex DKey.pfs (fun k => k) ord (lex DKey.obj DKey.off ord ord)
theorem cmpK_def (a b : DKey) : cmpK a b = if ord a.pfs b.pfs ≠ 0 then ord a.pfs b.pfs else if ord a.obj b.obj ≠ 0 then ord a.obj b.obj else ord a.off b.off := rfl
theorem cmp_cmpK : Cmp cmpK := by
 have h : Cmp (lex Prod.fst Prod.snd ord (lex Prod.fst Prod.snd ord ord) : Int × Int × Int → Int × Int × Int → Int) :=
  cmp_ord.lexic (cmp_ord.lexic cmp_ord fun x y h1 h2 => Prod.ext h1 h2) fun x y h1 h2 => Prod.ext h1 h2
 have e : ∀ a b : DKey, cmpK a b = lex Prod.fst Prod.snd ord (lex Prod.fst Prod.snd ord ord) (a.pfs, a.obj, a.off) (b.pfs, b.obj, b.off) := fun _ _ => rfl
 refine ⟨fun a b => ?_, fun a b => ?_, fun a b => ?_, fun a b c => ?_⟩
 · rw [e]; exact h.one _ _
 · rw [e, e]; exact h.neg _ _
 · rw [e, h.zero]
   obtain ⟨a1, a2, a3⟩ := a
   obtain ⟨b1, b2, b3⟩ := b
   simp
 · rw [e, e, e]; exact h.trans _ _ _
theorem key_Cmp_eq (a b : DKey) : key_Cmp a b = some (cmpK a b) := by
 unfold key_Cmp
 rw [cmpK_def]
 simp only [key_order_eq, Option.bind_some, Bool.cond_eq_ite, bne_iff_ne, ne_eq]
 by_cases h1 : ord a.pfs b.pfs = 0
 · by_cases h2 : ord a.obj b.obj = 0
   · by_cases h3 : ord a.off b.off = 0 <;> simp [h1, h2, h3]
   · simp [h1, h2]
 · simp [h1]
def cmpS : DSpot → DSpot → Int := lex DSpot.key DSpot.made cmpK ord
theorem cmpS_def (a b : DSpot) : cmpS a b = if cmpK a.key b.key ≠ 0 then cmpK a.key b.key else ord a.made b.made := rfl
theorem cmp_cmpS : Cmp cmpS := cmp_cmpK.lexic cmp_ord fun x y h1 h2 => by
 obtain ⟨x1, x2⟩ := x
 obtain ⟨y1, y2⟩ := y
 simp_all
theorem key_CmpSpot_eq (a b : DSpot) : key_CmpSpot a b = some (cmpS a b) := by
 unfold key_CmpSpot
 rw [cmpS_def]
 simp only [key_order_eq, key_Cmp_eq, Option.bind_some, Bool.cond_eq_ite, bne_iff_ne, ne_eq]
 by_cases h1 : cmpK a.key b.key = 0 <;> simp [h1]
def live (e : DElem) (t : Int) : Bool := decide (e.made ≤ t) && (e.gone == 0 || decide (t < e.gone))
theorem elem_Live_eq (e : DElem) (t : Int) : elem_Live e t = some (live e t) := by
 unfold elem_Live live
 simp
def lastE (e : DElem) : Int := if e.made < e.gone then e.gone else e.made
theorem elem_Last_eq (e : DElem) : elem_Last e = some (lastE e) := by
 unfold elem_Last lastE
 simp
def chkK (k : DKey) : Int := if k.pfs < 0 ∨ 15 < k.pfs ∨ k.obj < 0 ∨ 1048576 < k.obj ∨ k.off < 0 ∨ 1073741824 < k.off then 1 else 0
theorem key_Check_eq (k : DKey) : key_Check k = some (chkK k) := by
 unfold key_Check chkK
 simp only [Bool.cond_eq_ite, Bool.or_eq_true, decide_eq_true_eq]
 split <;> rfl
def chkE (e : DElem) : Int :=
 if chkK e.key ≠ 0 then 1 else if e.made < 1 ∨ 2147483647 < e.made ∨ e.gone ≠ 0 ∧ (e.gone ≤ e.made ∨ 2147483647 < e.gone) then 9 else if 40 < e.val.size then 2 else 0
theorem chkK_one (k : DKey) : chkK k = 0 ∨ chkK k = 1 := by unfold chkK; split <;> simp
theorem elem_Check_eq (e : DElem) : elem_Check e = some (chkE e) := by
 unfold elem_Check chkE
 simp only [key_Check_eq, Option.bind_some, Bool.cond_eq_ite, Bool.or_eq_true, Bool.and_eq_true, decide_eq_true_eq, bne_iff_ne, ne_eq]
 rcases chkK_one e.key with h | h
 · simp only [h, not_true_eq_false, if_false]
   by_cases h1 : e.made < 1 ∨ 2147483647 < e.made ∨ ¬e.gone = 0 ∧ (e.gone ≤ e.made ∨ 2147483647 < e.gone)
   · rw [if_pos h1, if_pos h1]
   · rw [if_neg h1, if_neg h1]
     by_cases h2 : 40 < e.val.size
     · rw [if_pos h2, if_pos (by omega)]
     · rw [if_neg h2, if_neg (by omega)]
 · simp [h]
theorem chkE_ok {e : DElem} (h : chkE e = 0) : chkK e.key = 0 ∧ 1 ≤ e.made ∧ e.made ≤ 2147483647 ∧ (e.gone = 0 ∨ e.made < e.gone ∧ e.gone ≤ 2147483647) ∧ e.val.size ≤ 40 := by
 unfold chkE at h
 split at h
 · cases h
 · split at h
   · cases h
   · split at h
     · cases h
     · rename_i h1 h2 h3
       refine ⟨by simpa using h1, ?_⟩
       omega
theorem wrap_i64 {x : Int} (h1 : -9223372036854775808 ≤ x) (h2 : x < 9223372036854775808) : IntKind.i64.wrap x = x := by
 rw [IntKind.wrap_i64]
 omega
end Go.Proofs.YtacjdfhllomccaaGreatDoor
