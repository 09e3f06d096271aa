/- Plain Lean: right runs, as lists of records by key. Its conditions: none. -/
import Derived.Test.YtcmkdoahkncakaaPKeyQ
namespace Go.Proofs.Ytcmkdoahkncakaa
set_option linter.unusedVariables false
set_option linter.unusedSimpArgs false
theorem ord_lt {a b : Int} : ord a b < 0 ↔ a < b := by unfold ord; (repeat' split) <;> omega
theorem Cmp.refl {α : Type} {f : α → α → Int} (h : Cmp f) (a : α) : f a a = 0 := (h.zero a a).2 rfl
theorem Cmp.lt_trans {α : Type} {f : α → α → Int} (h : Cmp f) {a b c : α} (h1 : f a b < 0) (h2 : f b c < 0) : f a c < 0 := by
 have h3 := h.trans a b c (by omega) (by omega)
 rcases Int.lt_or_eq_of_le h3 with h4 | h4
 · exact h4
 · have := (h.zero _ _).1 h4
   subst this
   have := h.neg a b
   omega
def spotE (e : DElem) : DSpot := ⟨e.key, e.made⟩
theorem cmpS_lt {a b : DSpot} : cmpS a b < 0 ↔ cmpK a.key b.key < 0 ∨ (a.key = b.key ∧ a.made < b.made) := by
 rw [cmpS_def]
 by_cases h : cmpK a.key b.key = 0
 · rw [if_neg (by simpa using h), ord_lt]
   have := (cmp_cmpK.zero _ _).1 h
   simp [this, cmp_cmpK.refl]
 · rw [if_pos h]
   have : a.key ≠ b.key := fun e => h ((cmp_cmpK.zero _ _).2 e)
   simp [this]
def Bef (p e : DElem) : Prop := cmpS (spotE p) (spotE e) < 0 ∧ (p.key = e.key → p.gone ≠ 0 ∧ p.gone ≤ e.made)
theorem Bef.key {p e : DElem} (h : Bef p e) : cmpK p.key e.key < 0 ∨ p.key = e.key ∧ p.made < e.made ∧ p.gone ≠ 0 ∧ p.gone ≤ e.made := by
 rcases cmpS_lt.1 h.1 with h1 | h1
 · exact .inl h1
 · exact .inr ⟨h1.1, h1.2, h.2 h1.1⟩
theorem bef_iff {p e : DElem} : Bef p e ↔ cmpK p.key e.key < 0 ∨ p.key = e.key ∧ p.made < e.made ∧ p.gone ≠ 0 ∧ p.gone ≤ e.made := by
 refine ⟨Bef.key, fun h => ⟨?_, ?_⟩⟩
 · rw [cmpS_lt]
   rcases h with h | h
   · exact .inl h
   · exact .inr ⟨h.1, h.2.1⟩
 · intro hk
   rcases h with h | h
   · rw [hk, cmp_cmpK.refl] at h; omega
   · exact h.2.2
theorem Bef.trans {p q e : DElem} (hq : chkE q = 0) (h1 : Bef p q) (h2 : Bef q e) : Bef p e := by
 obtain ⟨_, _, _, h3, _⟩ := chkE_ok hq
 rw [bef_iff] at *
 rcases h1 with h1 | ⟨k1, h1⟩ <;> rcases h2 with h2 | ⟨k2, h2⟩
 · exact .inl (cmp_cmpK.lt_trans h1 h2)
 · rw [← k2]; exact .inl h1
 · rw [k1]; exact .inl h2
 · refine .inr ⟨k1.trans k2, ?_⟩; omega
structure Run (l : List DElem) : Prop where
 len : l.length ≤ 400
 ok : ∀ e ∈ l, chkE e = 0
 ord : l.Pairwise Bef
theorem Run.nil : Run [] := ⟨by simp, by simp, List.Pairwise.nil⟩
theorem Run.sub {l m : List DElem} (h : Run l) (hs : m.Sublist l) : Run m :=
 ⟨Nat.le_trans hs.length_le h.len, fun e he => h.ok e (hs.subset he), h.ord.sublist hs⟩
def lo (l : List DElem) (k : DKey) : List DElem := l.filter fun e => decide (cmpK e.key k < 0)
def hi (l : List DElem) (k : DKey) : List DElem := l.filter fun e => decide (0 < cmpK e.key k)
theorem Bef.le {a b : DElem} (h : Bef a b) : cmpK a.key b.key ≤ 0 := by
 rcases h.key with h | h
 · omega
 · rw [h.1, cmp_cmpK.refl]; omega
section
variable {l : List DElem} {k : DKey} {t : Int} {v : ByteArray}
end
end Go.Proofs.Ytcmkdoahkncakaa
