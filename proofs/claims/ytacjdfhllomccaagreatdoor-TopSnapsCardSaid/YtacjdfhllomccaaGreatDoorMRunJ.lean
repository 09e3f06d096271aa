/- Plain Lean: right runs, as lists of records by key. Its conditions: none. -/
import Derived.Test.YtacjdfhllomccaaGreatDoorPKeyJ
namespace Go.Proofs.YtacjdfhllomccaaGreatDoor
set_option linter.unusedVariables false
set_option linter.unusedSimpArgs false
theorem ord_lt {a b : Int} : ord a b < 0 ↔ a < b := by unfold ord; (repeat' split) <;> omega
theorem Cmp.refl {α : Type} {f : α → α → Int} (h : Cmp f) (a : α) : f a a = 0 := (h.zero a a).2 rfl
theorem Cmp.lt_trans {α : Type} {f : α → α → Int} (h : Cmp f) {a b c : α} (h1 : f a b < 0) (h2 : f b c < 0) : f a c < 0 := by
 have h3 := h.trans a b c (by omega) (by omega)
 rcases Int.lt_or_eq_of_le h3 with h4 | h4
 · exact h4
 · have := (h.zero _ _).1 h4
   subst this
   have := h.neg a b
   omega
theorem Cmp.lt_le {α : Type} {f : α → α → Int} (h : Cmp f) {a b c : α} (h1 : f a b < 0) (h2 : f b c ≤ 0) : f a c < 0 := by
 rcases Int.lt_or_eq_of_le h2 with h3 | h3
 · exact h.lt_trans h1 h3
 · have := (h.zero _ _).1 h3; subst this; exact h1
theorem Cmp.pos {α : Type} {f : α → α → Int} (h : Cmp f) {a b : α} : 0 < f a b ↔ f b a < 0 := by
 have := h.neg a b; omega
theorem Cmp.tri {α : Type} {f : α → α → Int} (h : Cmp f) (a b : α) : f a b < 0 ∨ a = b ∨ f b a < 0 := by
 have h1 := h.neg a b
 rcases h.one a b with h2 | h2 | h2
 · left; omega
 · right; left; exact (h.zero _ _).1 h2
 · right; right; omega
def spotE (e : DElem) : DSpot := ⟨e.key, e.made⟩
theorem cmpS_lt {a b : DSpot} : cmpS a b < 0 ↔ cmpK a.key b.key < 0 ∨ (a.key = b.key ∧ a.made < b.made) := by
 rw [cmpS_def]
 by_cases h : cmpK a.key b.key = 0
 · rw [if_neg (by simpa using h), ord_lt]
   have := (cmp_cmpK.zero _ _).1 h
   simp [this, cmp_cmpK.refl]
 · rw [if_pos h]
   have : a.key ≠ b.key := fun e => h ((cmp_cmpK.zero _ _).2 e)
   simp [this]
def Bef (p e : DElem) : Prop := cmpS (spotE p) (spotE e) < 0 ∧ (p.key = e.key → p.gone ≠ 0 ∧ p.gone ≤ e.made)
theorem Bef.key {p e : DElem} (h : Bef p e) : cmpK p.key e.key < 0 ∨ p.key = e.key ∧ p.made < e.made ∧ p.gone ≠ 0 ∧ p.gone ≤ e.made := by
 rcases cmpS_lt.1 h.1 with h1 | h1
 · exact .inl h1
 · exact .inr ⟨h1.1, h1.2, h.2 h1.1⟩
theorem bef_iff {p e : DElem} : Bef p e ↔ cmpK p.key e.key < 0 ∨ p.key = e.key ∧ p.made < e.made ∧ p.gone ≠ 0 ∧ p.gone ≤ e.made := by
 refine ⟨Bef.key, fun h => ⟨?_, ?_⟩⟩
 · rw [cmpS_lt]
   rcases h with h | h
   · exact .inl h
   · exact .inr ⟨h.1, h.2.1⟩
 · intro hk
   rcases h with h | h
   · rw [hk, cmp_cmpK.refl] at h; omega
   · exact h.2.2
theorem Bef.trans {p q e : DElem} (hq : chkE q = 0) (h1 : Bef p q) (h2 : Bef q e) : Bef p e := by
 obtain ⟨_, _, _, h3, _⟩ := chkE_ok hq
 rw [bef_iff] at *
 rcases h1 with h1 | ⟨k1, h1⟩ <;> rcases h2 with h2 | ⟨k2, h2⟩
 · exact .inl (cmp_cmpK.lt_trans h1 h2)
 · rw [← k2]; exact .inl h1
 · rw [k1]; exact .inl h2
 · refine .inr ⟨k1.trans k2, ?_⟩; omega
structure Run (l : List DElem) : Prop where
 len : l.length ≤ 400
 ok : ∀ e ∈ l, chkE e = 0
 ord : l.Pairwise Bef
theorem Run.nil : Run [] := ⟨by simp, by simp, List.Pairwise.nil⟩
theorem Run.sub {l m : List DElem} (h : Run l) (hs : m.Sublist l) : Run m :=
 ⟨Nat.le_trans hs.length_le h.len, fun e he => h.ok e (hs.subset he), h.ord.sublist hs⟩
theorem Bef.irrefl {e : DElem} (h : Bef e e) : False := by
 have := h.1; rw [cmp_cmpS.refl] at this; omega
def hist (l : List DElem) (k : DKey) : List DElem := l.filter fun e => e.key == k
theorem mem_hist {l : List DElem} {k : DKey} {e : DElem} : e ∈ hist l k ↔ e ∈ l ∧ e.key = k := by simp [hist]
theorem Run.hist {l : List DElem} (hl : Run l) (k : DKey) : Run (hist l k) := hl.sub List.filter_sublist
def lo (l : List DElem) (k : DKey) : List DElem := l.filter fun e => decide (cmpK e.key k < 0)
def hi (l : List DElem) (k : DKey) : List DElem := l.filter fun e => decide (0 < cmpK e.key k)
theorem mem_lo {l : List DElem} {k : DKey} {e : DElem} : e ∈ lo l k ↔ e ∈ l ∧ cmpK e.key k < 0 := by simp [lo]
theorem mem_hi {l : List DElem} {k : DKey} {e : DElem} : e ∈ hi l k ↔ e ∈ l ∧ 0 < cmpK e.key k := by simp [hi]
theorem Bef.le {a b : DElem} (h : Bef a b) : cmpK a.key b.key ≤ 0 := by
 rcases h.key with h | h
 · omega
 · rw [h.1, cmp_cmpK.refl]; omega
theorem split3 : ∀ {l : List DElem} (k : DKey), l.Pairwise Bef → l = lo l k ++ (hist l k ++ hi l k)
 | [], k, _ => rfl
 | a :: l, k, h => by
  rw [List.pairwise_cons] at h
  have ih := split3 k h.2
  have low : 0 ≤ cmpK a.key k → lo l k = [] := fun h0 => by
   unfold lo
   rw [List.filter_eq_nil_iff]
   intro e he
   have h1 := (h.1 e he).le
   have h2 := cmp_cmpK.trans k a.key e.key (by have := cmp_cmpK.neg k a.key; omega) h1
   have := cmp_cmpK.neg k e.key
   simp; omega
  have mid : 0 < cmpK a.key k → hist l k = [] := fun h0 => by
   unfold hist
   rw [List.filter_eq_nil_iff]
   intro e he
   have h1 := (h.1 e he).le
   have h2 := cmp_cmpK.lt_le (a := k) (b := a.key) (c := e.key) (by have := cmp_cmpK.neg k a.key; omega) h1
   simp
   intro e'
   rw [e', cmp_cmpK.refl] at h2
   omega
  rcases cmp_cmpK.tri a.key k with h1 | h1 | h1
  · have e1 : lo (a :: l) k = a :: lo l k := by unfold lo; rw [List.filter_cons_of_pos (by simpa using h1)]
    have e2 : hist (a :: l) k = hist l k := by
     unfold hist; rw [List.filter_cons_of_neg]; simp
     intro e; rw [e, cmp_cmpK.refl] at h1; omega
    have e3 : hi (a :: l) k = hi l k := by unfold hi; rw [List.filter_cons_of_neg]; simp; omega
    rw [e1, e2, e3, List.cons_append, ← ih]
  · have e0 : cmpK a.key k = 0 := by rw [h1, cmp_cmpK.refl]
    have e1 : lo (a :: l) k = [] := by
     have := low (by omega); unfold lo at *; rw [List.filter_cons_of_neg (by simp; omega)]; exact this
    have e2 : hist (a :: l) k = a :: hist l k := by unfold hist; rw [List.filter_cons_of_pos (by simpa using h1)]
    have e3 : hi (a :: l) k = hi l k := by unfold hi; rw [List.filter_cons_of_neg]; simp; omega
    rw [e1, e2, e3]
    rw [low (by omega), List.nil_append] at ih
    rw [List.nil_append, List.cons_append, ← ih]
  · have e0 : 0 < cmpK a.key k := cmp_cmpK.pos.2 h1
    have e1 : lo (a :: l) k = [] := by
     have := low (by omega); unfold lo at *; rw [List.filter_cons_of_neg (by simp; omega)]; exact this
    have e2 : hist (a :: l) k = [] := by
     have := mid e0; unfold hist at *; rw [List.filter_cons_of_neg]; exact this
     simp; intro e; rw [e, cmp_cmpK.refl] at h1; omega
    have e3 : hi (a :: l) k = a :: hi l k := by unfold hi; rw [List.filter_cons_of_pos (by simpa using e0)]
    rw [e1, e2, e3]
    rw [low (by omega), mid e0, List.nil_append, List.nil_append] at ih
    rw [List.nil_append, List.nil_append, ← ih]
def upd (l : List DElem) (k : DKey) (h : List DElem) : List DElem := lo l k ++ (h ++ hi l k)
theorem hist_append (a b : List DElem) (k : DKey) : hist (a ++ b) k = hist a k ++ hist b k := List.filter_append ..
theorem hist_self {h : List DElem} {k : DKey} (hk : ∀ e ∈ h, e.key = k) : hist h k = h := by
 unfold hist; rw [List.filter_eq_self]; intro e he; simpa using hk e he
theorem hist_other {h : List DElem} {k' : DKey} (hk : ∀ e ∈ h, e.key ≠ k') : hist h k' = [] := by
 unfold hist; rw [List.filter_eq_nil_iff]; intro e he; simpa using hk e he
theorem hist_upd_self {l : List DElem} {k : DKey} {h : List DElem} (hk : ∀ e ∈ h, e.key = k) : hist (upd l k h) k = h := by
 unfold upd
 rw [hist_append, hist_append, hist_self hk, hist_other (h := lo l k) (k' := k), hist_other (h := hi l k) (k' := k), List.append_nil, List.nil_append]
 · intro e he e'; have := (mem_hi.1 he).2; rw [e', cmp_cmpK.refl] at this; omega
 · intro e he e'; have := (mem_lo.1 he).2; rw [e', cmp_cmpK.refl] at this; omega
theorem hist_upd_other {l : List DElem} {k k' : DKey} {h : List DElem} (hl : l.Pairwise Bef) (hk : ∀ e ∈ h, e.key = k) (hne : k' ≠ k) : hist (upd l k h) k' = hist l k' := by
 conv => rhs; rw [split3 k hl]
 unfold upd
 rw [hist_append, hist_append, hist_append, hist_append, hist_other (h := h) (k' := k'), hist_other (h := hist l k) (k' := k')]
 · intro e he; rw [(mem_hist.1 he).2]; exact fun e => hne e.symm
 · intro e he; rw [hk e he]; exact fun e => hne e.symm
theorem upd_length {l : List DElem} {k : DKey} {h : List DElem} (hl : l.Pairwise Bef) : (upd l k h).length + (hist l k).length = l.length + h.length := by
 have := congrArg List.length (split3 k hl)
 unfold upd
 simp only [List.length_append] at *
 omega
theorem mem_upd {l : List DElem} {k : DKey} {h : List DElem} {e : DElem} (hl : l.Pairwise Bef) : e ∈ upd l k h ↔ e ∈ h ∨ e ∈ l ∧ e.key ≠ k := by
 unfold upd
 rw [List.mem_append, List.mem_append, mem_lo, mem_hi]
 constructor
 · rintro (⟨h1, h2⟩ | h1 | ⟨h1, h2⟩)
   · exact .inr ⟨h1, fun e => by rw [e, cmp_cmpK.refl] at h2; omega⟩
   · exact .inl h1
   · exact .inr ⟨h1, fun e => by rw [e, cmp_cmpK.refl] at h2; omega⟩
 · rintro (h1 | ⟨h1, h2⟩)
   · exact .inr (.inl h1)
   · rcases cmp_cmpK.tri e.key k with h3 | h3 | h3
     · exact .inl ⟨h1, h3⟩
     · exact absurd h3 h2
     · exact .inr (.inr ⟨h1, cmp_cmpK.pos.2 h3⟩)
theorem Run.upd {l : List DElem} {k : DKey} {h : List DElem} (hl : Run l) (hk : ∀ e ∈ h, e.key = k) (ho : ∀ e ∈ h, chkE e = 0) (hp : h.Pairwise Bef) (hn : (upd l k h).length ≤ 400) : Run (upd l k h) := by
 refine ⟨hn, fun e he => ?_, ?_⟩
 · rcases (mem_upd hl.ord).1 he with h1 | h1
   · exact ho e h1
   · exact hl.ok e h1.1
 · unfold Go.Proofs.YtacjdfhllomccaaGreatDoor.upd
   rw [List.pairwise_append, List.pairwise_append]
   refine ⟨hl.ord.sublist List.filter_sublist, ⟨hp, hl.ord.sublist List.filter_sublist, fun a ha b hb => ?_⟩, fun a ha b hb => ?_⟩
   · rw [bef_iff]; left
     have := (mem_hi.1 hb).2
     rw [hk a ha]; exact cmp_cmpK.pos.1 this
   · rw [bef_iff]; left
     have h1 := (mem_lo.1 ha).2
     rcases List.mem_append.1 hb with hb | hb
     · rw [hk b hb]; exact h1
     · exact cmp_cmpK.lt_trans h1 (cmp_cmpK.pos.1 (mem_hi.1 hb).2)
def lastL (l : List DElem) : Int := l.foldl (fun t e => if t < lastE e then lastE e else t) 0
theorem lastL_from (l : List DElem) : ∀ t0 t : Int, l.foldl (fun t e => if t < lastE e then lastE e else t) t0 ≤ t ↔ t0 ≤ t ∧ ∀ e ∈ l, lastE e ≤ t := by
 induction l with
 | nil => intro t0 t; simp
 | cons a l ih =>
  intro t0 t
  rw [List.foldl_cons, ih, List.forall_mem_cons]
  split <;> constructor <;> rintro ⟨h1, h2⟩
  · exact ⟨by omega, by omega, h2⟩
  · exact ⟨h2.1, h2.2⟩
  · exact ⟨by omega, by omega, h2⟩
  · exact ⟨h1, h2.2⟩
theorem lastL_le {l : List DElem} {t : Int} : lastL l ≤ t ↔ 0 ≤ t ∧ ∀ e ∈ l, lastE e ≤ t := lastL_from l 0 t
theorem le_lastL {l : List DElem} {e : DElem} (h : e ∈ l) : lastE e ≤ lastL l := ((lastL_le (l := l) (t := lastL l)).1 (Int.le_refl _)).2 e h
theorem lastE_le {e : DElem} {t : Int} : lastE e ≤ t ↔ e.made ≤ t ∧ e.gone ≤ t := by unfold lastE; split <;> omega
theorem Run.last_le {l : List DElem} (h : Run l) : lastL l ≤ 2147483647 := by
 rw [lastL_le]
 refine ⟨by omega, fun e he => ?_⟩
 obtain ⟨_, _, _, _, _⟩ := chkE_ok (h.ok e he)
 rw [lastE_le]; omega
theorem pair_cases {α : Type} {R : α → α → Prop} : ∀ {l : List α}, l.Pairwise R → ∀ {a b : α}, a ∈ l → b ∈ l → a = b ∨ R a b ∨ R b a
 | [], _, _, _, h, _ => by simp at h
 | c :: l, h, a, b, ha, hb => by
  rw [List.pairwise_cons] at h
  rcases List.mem_cons.1 ha with ha | ha <;> rcases List.mem_cons.1 hb with hb | hb
  · left; rw [ha, hb]
  · right; left; rw [ha]; exact h.1 b hb
  · right; right; rw [hb]; exact h.1 a ha
  · exact pair_cases h.2 ha hb
theorem live_iff {e : DElem} {t : Int} : live e t = true ↔ e.made ≤ t ∧ (e.gone = 0 ∨ t < e.gone) := by unfold live; simp
theorem Run.live_one {l : List DElem} (h : l.Pairwise Bef) {a b : DElem} (ha : a ∈ l) (hb : b ∈ l) (hk : a.key = b.key) {t : Int} (la : live a t = true) (lb : live b t = true) : a = b := by
 rw [live_iff] at la lb
 have bad : ∀ {x y : DElem}, Bef x y → x.key = y.key → (x.made ≤ t ∧ (x.gone = 0 ∨ t < x.gone)) → (y.made ≤ t ∧ (y.gone = 0 ∨ t < y.gone)) → False := fun hb hk h1 h2 => by
  have := hb.2 hk; omega
 rcases pair_cases h ha hb with h1 | h1 | h1
 · exact h1
 · exact (bad h1 hk la lb).elim
 · exact (bad h1 hk.symm lb la).elim
def atR (l : List DElem) (k : DKey) (t : Int) : Option DElem := l.find? fun e => e.key == k && live e t
theorem atR_hist (l : List DElem) (k : DKey) (t : Int) : atR l k t = (hist l k).find? fun e => live e t := by
 unfold atR hist; rw [List.find?_filter]; congr 1; funext e; cases e.key == k <;> simp
theorem atR_some {l : List DElem} (h : l.Pairwise Bef) {k : DKey} {t : Int} {e : DElem} : atR l k t = some e ↔ e ∈ l ∧ e.key = k ∧ live e t = true := by
 unfold atR
 constructor
 · intro hf
   have h1 := List.mem_of_find?_eq_some hf
   have h2 := List.find?_some hf
   simp only [Bool.and_eq_true, beq_iff_eq] at h2
   exact ⟨h1, h2⟩
 · rintro ⟨h1, h2, h3⟩
   cases hf : l.find? (fun e => e.key == k && live e t) with
   | none =>
    rw [List.find?_eq_none] at hf
    have := hf e h1
    simp [h2, h3] at this
   | some a =>
    have g1 := List.mem_of_find?_eq_some hf
    have g2 := List.find?_some hf
    simp only [Bool.and_eq_true, beq_iff_eq] at g2
    rw [Run.live_one h g1 h1 (g2.1.trans h2.symm) g2.2 h3]
theorem atR_none {l : List DElem} {k : DKey} {t : Int} : atR l k t = none ↔ ∀ e ∈ l, e.key = k → live e t = false := by
 unfold atR
 rw [List.find?_eq_none]
 constructor
 · intro h e he hk
   have := h e he
   cases hl : live e t
   · rfl
   · simp [hk, hl] at this
 · intro h e he
   by_cases hk : e.key = k
   · simp [hk, h e he hk]
   · simp [hk]
theorem live_late {e : DElem} {t : Int} (h : lastE e ≤ t) : live e t = (e.gone == 0) := by
 rw [lastE_le] at h
 rw [Bool.eq_iff_iff, live_iff]; simp; omega
def cl (t : Int) (e : DElem) : Option DElem := if e.gone = 0 then if e.made = t then none else some { e with gone := t } else some e
def clo (h : List DElem) (t : Int) : List DElem := h.filterMap (cl t)
def newE (k : DKey) (v : ByteArray) (t : Int) : DElem := ⟨k, t, 0, v⟩
def cutR (l : List DElem) (k : DKey) (t : Int) : List DElem := upd l k (clo (hist l k) t)
def putR (l : List DElem) (k : DKey) (v : ByteArray) (t : Int) : List DElem := upd l k (clo (hist l k) t ++ [newE k v t])
theorem cl_some {t : Int} {e x : DElem} : cl t e = some x ↔ (e.gone ≠ 0 ∧ x = e) ∨ (e.gone = 0 ∧ e.made ≠ t ∧ x = { e with gone := t }) := by
 unfold cl
 split
 · split
   · simp_all
   · rename_i h1 h2
     simp only [Option.some.injEq]
     constructor
     · rintro rfl; exact .inr ⟨h1, h2, rfl⟩
     · rintro (h | h)
       · exact absurd h1 h.1
       · exact h.2.2.symm
 · rename_i h1
   simp only [Option.some.injEq]
   constructor
   · rintro rfl; exact .inl ⟨h1, rfl⟩
   · rintro (h | h)
     · exact h.2.symm
     · exact absurd h.1 h1
theorem mem_clo {h : List DElem} {t : Int} {x : DElem} : x ∈ clo h t ↔ (x ∈ h ∧ x.gone ≠ 0) ∨ ∃ e ∈ h, e.gone = 0 ∧ e.made ≠ t ∧ x = { e with gone := t } := by
 unfold clo
 rw [List.mem_filterMap]
 constructor
 · rintro ⟨e, he, h1⟩
   rcases cl_some.1 h1 with ⟨h2, rfl⟩ | h2
   · exact .inl ⟨he, h2⟩
   · exact .inr ⟨e, he, h2⟩
 · rintro (⟨h1, h2⟩ | ⟨e, he, h2⟩)
   · exact ⟨x, h1, cl_some.2 (.inl ⟨h2, rfl⟩)⟩
   · exact ⟨e, he, cl_some.2 (.inr h2)⟩
theorem clo_append (a b : List DElem) (t : Int) : clo (a ++ b) t = clo a t ++ clo b t := List.filterMap_append ..
theorem clo_gone {h : List DElem} {t : Int} (hg : ∀ e ∈ h, e.gone ≠ 0) : clo h t = h := by
 unfold clo
 induction h with
 | nil => rfl
 | cons a h ih =>
  rw [List.filterMap_cons_some (b := a) (cl_some.2 (.inl ⟨hg a (by simp), rfl⟩)), ih fun e he => hg e (by simp [he])]
theorem gone_clo {h : List DElem} {t : Int} (ht : t ≠ 0) : ∀ e ∈ clo h t, e.gone ≠ 0 := fun e he => by
 rcases mem_clo.1 he with h1 | ⟨e', _, _, _, rfl⟩
 · exact h1.2
 · exact ht
theorem clo_length (h : List DElem) (t : Int) : (clo h t).length ≤ h.length := List.length_filterMap_le ..
theorem keys_clo {h : List DElem} {k : DKey} {t : Int} (hk : ∀ e ∈ h, e.key = k) : ∀ e ∈ clo h t, e.key = k := fun e he => by
 rcases mem_clo.1 he with h1 | ⟨e', he', _, _, rfl⟩
 · exact hk e h1.1
 · exact hk e' he'
theorem hist_open {h : List DElem} {k : DKey} (hp : h.Pairwise Bef) (hk : ∀ e ∈ h, e.key = k) {a b : List DElem} {e : DElem} (he : h = a ++ e :: b) (hg : e.gone = 0) : b = [] := by
 subst he
 cases b with
 | nil => rfl
 | cons x b =>
  rw [List.pairwise_append, List.pairwise_cons] at hp
  have := (hp.2.1.1 x (by simp)).2 (by rw [hk e (by simp), hk x (by simp)])
  exact absurd hg this.1
theorem clo_ok {h : List DElem} {k : DKey} {t : Int} (hk : ∀ e ∈ h, e.key = k) (ho : ∀ e ∈ h, chkE e = 0) (hp : h.Pairwise Bef) (ht : ∀ e ∈ h, lastE e ≤ t) (h0 : 1 ≤ t) (h1 : t ≤ 2147483647) :
 (∀ e ∈ clo h t, chkE e = 0) ∧ (clo h t).Pairwise Bef ∧ (∀ e ∈ clo h t, e.gone ≤ t ∧ e.made < t) := by
 refine ⟨fun e he => ?_, ?_, fun e he => ?_⟩
 · rcases mem_clo.1 he with h2 | ⟨e', he', hg, hm, rfl⟩
   · exact ho e h2.1
   · have h3 := ho e' he'
     have h4 := lastE_le.1 (ht e' he')
     obtain ⟨c1, c2, c3, c4, c5⟩ := chkE_ok h3
     unfold chkE
     dsimp only
     rw [if_neg (by simpa using c1), if_neg (by omega), if_neg (by omega)]
 · unfold clo
   rw [List.pairwise_filterMap]
   refine hp.imp_of_mem ?_
   intro a b ha hb hab x hx y hy
   have g := hab.2 (by rw [hk a ha, hk b hb])
   rcases cl_some.1 (show cl t a = some x from hx) with ⟨_, rfl⟩ | ⟨h2, _⟩
   · rcases cl_some.1 (show cl t b = some y from hy) with ⟨_, rfl⟩ | ⟨_, _, rfl⟩
     · exact hab
     · exact hab
   · exact absurd h2 g.1
 · rcases mem_clo.1 he with ⟨h2, h3⟩ | ⟨e', he', hg, hm, rfl⟩
   · have h4 := lastE_le.1 (ht e h2)
     obtain ⟨_, c2, c3, c4, _⟩ := chkE_ok (ho e h2)
     omega
   · have h4 := lastE_le.1 (ht e' he')
     dsimp only
     omega
theorem newE_ok {k : DKey} {v : ByteArray} {t : Int} (hc : chkE (newE k v t) = 0) : chkK k = 0 ∧ 1 ≤ t ∧ t ≤ 2147483647 ∧ v.size ≤ 40 := by
 obtain ⟨h1, h2, h3, h4, h5⟩ := chkE_ok hc
 exact ⟨h1, h2, h3, h5⟩
theorem chkE_new {k : DKey} {v : ByteArray} {t : Int} (h1 : chkK k = 0) (h2 : 1 ≤ t) (h3 : t ≤ 2147483647) (h4 : v.size ≤ 40) : chkE (newE k v t) = 0 := by
 unfold chkE newE
 dsimp only
 rw [if_neg (by simpa using h1), if_neg (by omega), if_neg (by omega)]
section
variable {l : List DElem} {k : DKey} {t : Int} {v : ByteArray}
theorem hist_keys (l : List DElem) (k : DKey) : ∀ e ∈ hist l k, e.key = k := fun e he => (mem_hist.1 he).2
theorem Run.clo (h : Run l) (ht : lastL l ≤ t) (h0 : 1 ≤ t) (h1 : t ≤ 2147483647) (k : DKey) :
 (∀ e ∈ clo (Go.Proofs.YtacjdfhllomccaaGreatDoor.hist l k) t, chkE e = 0) ∧ (Go.Proofs.YtacjdfhllomccaaGreatDoor.clo (Go.Proofs.YtacjdfhllomccaaGreatDoor.hist l k) t).Pairwise Bef ∧ (∀ e ∈ Go.Proofs.YtacjdfhllomccaaGreatDoor.clo (Go.Proofs.YtacjdfhllomccaaGreatDoor.hist l k) t, e.gone ≤ t ∧ e.made < t) :=
 clo_ok (hist_keys l k) (h.hist k).ok (h.hist k).ord (fun e he => by have := le_lastL (mem_hist.1 he).1; omega) h0 h1
theorem Run.cutR (h : Run l) (ht : lastL l ≤ t) (h0 : 1 ≤ t) (h1 : t ≤ 2147483647) (k : DKey) : Run (cutR l k t) := by
 obtain ⟨c1, c2, c3⟩ := h.clo ht h0 h1 k
 refine h.upd (keys_clo (hist_keys l k)) c1 c2 ?_
 have h2 := upd_length (k := k) (h := Go.Proofs.YtacjdfhllomccaaGreatDoor.clo (Go.Proofs.YtacjdfhllomccaaGreatDoor.hist l k) t) h.ord
 have h3 := clo_length (Go.Proofs.YtacjdfhllomccaaGreatDoor.hist l k) t
 have := h.len
 omega
theorem put_hist (h : Run l) (ht : lastL l ≤ t) (hc : chkE (newE k v t) = 0) :
 (∀ e ∈ clo (hist l k) t ++ [newE k v t], e.key = k) ∧ (∀ e ∈ clo (hist l k) t ++ [newE k v t], chkE e = 0) ∧ (clo (hist l k) t ++ [newE k v t]).Pairwise Bef := by
 obtain ⟨_, h0, h1, _⟩ := newE_ok hc
 obtain ⟨c1, c2, c3⟩ := h.clo ht h0 h1 k
 refine ⟨fun e he => ?_, fun e he => ?_, ?_⟩
 · rcases List.mem_append.1 he with he | he
   · exact keys_clo (hist_keys l k) e he
   · simp at he; subst he; rfl
 · rcases List.mem_append.1 he with he | he
   · exact c1 e he
   · simp at he; subst he; exact hc
 · rw [List.pairwise_append]
   refine ⟨c2, by simp, fun a ha b hb => ?_⟩
   simp at hb; subst hb
   have h2 := c3 a ha
   rw [bef_iff]
   right
   refine ⟨keys_clo (hist_keys l k) a ha, h2.2, gone_clo (by omega) a ha, h2.1⟩
theorem Run.putR (h : Run l) (ht : lastL l ≤ t) (hc : chkE (newE k v t) = 0) (hn : (putR l k v t).length ≤ 400) : Run (putR l k v t) := by
 obtain ⟨h1, h2, h3⟩ := put_hist h ht hc
 exact h.upd h1 h2 h3 hn
theorem hist_cut (h : Run l) : hist (cutR l k t) k = clo (hist l k) t := hist_upd_self (keys_clo (hist_keys l k))
theorem hist_cut_other (h : Run l) {k' : DKey} (hne : k' ≠ k) : hist (cutR l k t) k' = hist l k' := hist_upd_other h.ord (keys_clo (hist_keys l k)) hne
theorem new_keys {h : List DElem} (hk : ∀ e ∈ h, e.key = k) : ∀ e ∈ clo h t ++ [newE k v t], e.key = k := fun e he => by
 rcases List.mem_append.1 he with he | he
 · exact keys_clo hk e he
 · simp at he; subst he; rfl
theorem hist_put : hist (putR l k v t) k = clo (hist l k) t ++ [newE k v t] := hist_upd_self (new_keys (hist_keys l k))
theorem hist_put_other (h : Run l) {k' : DKey} (hne : k' ≠ k) : hist (putR l k v t) k' = hist l k' := hist_upd_other h.ord (new_keys (hist_keys l k)) hne
theorem last_cut (h : Run l) (ht : lastL l ≤ t) (h0 : 1 ≤ t) (h1 : t ≤ 2147483647) : lastL (cutR l k t) ≤ t := by
 obtain ⟨c1, c2, c3⟩ := h.clo ht h0 h1 k
 rw [lastL_le]
 refine ⟨by omega, fun e he => ?_⟩
 rcases (mem_upd h.ord).1 he with he | he
 · have := c3 e he; rw [lastE_le]; omega
 · have := le_lastL he.1; omega
theorem last_put (h : Run l) (ht : lastL l ≤ t) (hc : chkE (newE k v t) = 0) : lastL (putR l k v t) = t := by
 obtain ⟨_, h0, h1, _⟩ := newE_ok hc
 obtain ⟨c1, c2, c3⟩ := h.clo ht h0 h1 k
 have hm : newE k v t ∈ putR l k v t := (mem_upd h.ord).2 (.inl (by simp))
 have hle := le_lastL hm
 have he : lastE (newE k v t) = t := by unfold lastE newE; dsimp only; rw [if_neg (by omega)]
 have : lastL (putR l k v t) ≤ t := by
  rw [lastL_le]
  refine ⟨by omega, fun e he => ?_⟩
  rcases (mem_upd h.ord).1 he with he | he
  · rcases List.mem_append.1 he with he | he
    · have := c3 e he; rw [lastE_le]; omega
    · simp at he; subst he; omega
  · have := le_lastL he.1; omega
 omega
def endE (t : Int) (e : DElem) : DElem := if e.gone = 0 then { e with gone := t } else e
theorem find_clo_late (h : List DElem) {t u : Int} (ht : ∀ e ∈ clo h t, e.gone ≤ t) (h0 : 1 ≤ t) (hu : t ≤ u) : (clo h t).find? (fun e => live e u) = none := by
 rw [List.find?_eq_none]
 intro e he
 have h1 := gone_clo (show t ≠ 0 by omega) e he
 have h2 := ht e he
 rw [live_iff]; omega
theorem find_clo_past (h : List DElem) {t u : Int} (hu : u < t) : (clo h t).find? (fun e => live e u) = (h.find? fun e => live e u).map (endE t) := by
 induction h with
 | nil => rfl
 | cons a h ih =>
  have hl : ∀ x, cl t a = some x → (live x u = live a u ∧ x = endE t a) := fun x hx => by
   unfold endE
   rcases cl_some.1 hx with ⟨h1, rfl⟩ | ⟨h1, h2, rfl⟩
   · rw [if_neg h1]; exact ⟨rfl, rfl⟩
   · rw [if_pos h1]
     refine ⟨?_, rfl⟩
     rw [Bool.eq_iff_iff, live_iff, live_iff]; dsimp only; omega
  unfold clo at ih ⊢
  cases hc : cl t a with
  | none =>
   rw [List.filterMap_cons_none hc, ih, List.find?_cons_of_neg]
   unfold cl at hc
   split at hc
   · split at hc
     · rw [live_iff]; omega
     · cases hc
   · cases hc
  | some x =>
   obtain ⟨h1, rfl⟩ := hl x hc
   rw [List.filterMap_cons_some hc, List.find?_cons, List.find?_cons, h1]
   cases live a u
   · exact ih
   · rfl
theorem at_put_other (h : Run l) {k' : DKey} (hne : k' ≠ k) (u : Int) : atR (putR l k v t) k' u = atR l k' u := by
 rw [atR_hist, atR_hist, hist_put_other h hne]
theorem at_cut_other (h : Run l) {k' : DKey} (hne : k' ≠ k) (u : Int) : atR (cutR l k t) k' u = atR l k' u := by
 rw [atR_hist, atR_hist, hist_cut_other h hne]
theorem at_put_self (h : Run l) (ht : lastL l ≤ t) (hc : chkE (newE k v t) = 0) {u : Int} (hu : t ≤ u) : atR (putR l k v t) k u = some (newE k v t) := by
 obtain ⟨_, h0, h1, _⟩ := newE_ok hc
 obtain ⟨c1, c2, c3⟩ := h.clo ht h0 h1 k
 rw [atR_hist, hist_put, List.find?_append, find_clo_late _ (fun e he => (c3 e he).1) h0 hu, Option.none_or, List.find?_cons_of_pos]
 rw [live_iff]; unfold newE; dsimp only; omega
theorem at_cut_self (h : Run l) (ht : lastL l ≤ t) (h0 : 1 ≤ t) (h1 : t ≤ 2147483647) {u : Int} (hu : t ≤ u) : atR (cutR l k t) k u = none := by
 obtain ⟨c1, c2, c3⟩ := h.clo ht h0 h1 k
 rw [atR_hist, hist_cut h, find_clo_late _ (fun e he => (c3 e he).1) h0 hu]
theorem at_put_past {u : Int} (hu : u < t) : atR (putR l k v t) k u = (atR l k u).map (endE t) := by
 rw [atR_hist, atR_hist, hist_put, List.find?_append, find_clo_past _ hu]
 cases (hist l k).find? (fun e => live e u) with
 | some e => rfl
 | none =>
  rw [Option.map_none, Option.none_or, List.find?_cons_of_neg]
  · rfl
  · rw [live_iff]; unfold newE; dsimp only; omega
theorem at_cut_past (h : Run l) {u : Int} (hu : u < t) : atR (cutR l k t) k u = (atR l k u).map (endE t) := by
 rw [atR_hist, atR_hist, hist_cut h, find_clo_past _ hu]
def nowR (l : List DElem) (k : DKey) : Option DElem := (hist l k).find? fun e => e.gone == 0
theorem nowR_at (h : Run l) {u : Int} (hu : lastL l ≤ u) (k : DKey) : atR l k u = nowR l k := by
 rw [atR_hist]
 unfold nowR
 have key : ∀ h : List DElem, (∀ e ∈ h, lastE e ≤ u) → h.find? (fun e => live e u) = h.find? fun e => e.gone == 0 := by
  intro h
  induction h with
  | nil => intro _; rfl
  | cons a h ih =>
   intro hh
   rw [List.find?_cons, List.find?_cons, live_late (hh a (by simp)), ih fun e he => hh e (by simp [he])]
 exact key _ fun e he => by have := le_lastL (mem_hist.1 he).1; omega
theorem nowR_some (h : l.Pairwise Bef) {e : DElem} : nowR l k = some e ↔ e ∈ l ∧ e.key = k ∧ e.gone = 0 := by
 unfold nowR
 constructor
 · intro hf
   have h1 := List.mem_of_find?_eq_some hf
   have h2 := List.find?_some hf
   rw [mem_hist] at h1
   exact ⟨h1.1, h1.2, by simpa using h2⟩
 · rintro ⟨h1, h2, h3⟩
   cases hf : (hist l k).find? (fun e => e.gone == 0) with
   | none =>
    rw [List.find?_eq_none] at hf
    have := hf e (mem_hist.2 ⟨h1, h2⟩)
    simp [h3] at this
   | some a =>
    have g1 := mem_hist.1 (List.mem_of_find?_eq_some hf)
    have g2 := List.find?_some hf
    simp only [beq_iff_eq] at g2
    have la : live a (max a.made e.made) = true := by rw [live_iff]; omega
    have le : live e (max a.made e.made) = true := by rw [live_iff]; omega
    rw [Run.live_one h g1.1 h1 (g1.2.trans h2.symm) la le]
theorem nowR_none : nowR l k = none ↔ ∀ e ∈ l, e.key = k → e.gone ≠ 0 := by
 unfold nowR
 rw [List.find?_eq_none]
 constructor
 · intro h e he hk; have := h e (mem_hist.2 ⟨he, hk⟩); simpa using this
 · intro h e he; have := h e (mem_hist.1 he).1 (mem_hist.1 he).2; simpa using this
theorem hist_now_none (h : nowR l k = none) : clo (hist l k) t = hist l k := clo_gone fun e he => nowR_none.1 h e (mem_hist.1 he).1 (mem_hist.1 he).2
theorem hist_now_some (h : l.Pairwise Bef) {e : DElem} (hn : nowR l k = some e) : ∃ a, hist l k = a ++ [e] ∧ ∀ x ∈ a, x.gone ≠ 0 := by
 obtain ⟨h1, h2, h3⟩ := (nowR_some h).1 hn
 obtain ⟨a, b, hab⟩ := List.append_of_mem (mem_hist.2 ⟨h1, h2⟩)
 have hp := h.sublist (List.filter_sublist (p := fun e => e.key == k))
 have hb := hist_open (show (hist l k).Pairwise Bef from hp) (hist_keys l k) hab h3
 subst hb
 refine ⟨a, hab, fun x hx hg => ?_⟩
 obtain ⟨c, d, rfl⟩ := List.append_of_mem hx
 have hab' : hist l k = c ++ x :: (d ++ [e]) := by rw [hab]; simp
 have := hist_open (show (hist l k).Pairwise Bef from hp) (hist_keys l k) hab' hg
 simp at this
theorem clo_now (h : l.Pairwise Bef) {e : DElem} (hn : nowR l k = some e) : ∃ a, hist l k = a ++ [e] ∧ clo (hist l k) t = a ++ (if e.made = t then [] else [{ e with gone := t }]) := by
 obtain ⟨a, ha, hg⟩ := hist_now_some h hn
 refine ⟨a, ha, ?_⟩
 have h3 := ((nowR_some h).1 hn).2.2
 rw [ha, clo_append, clo_gone hg]
 congr 1
 unfold clo
 by_cases hm : e.made = t
 · rw [if_pos hm, List.filterMap_cons_none (by unfold cl; rw [if_pos h3, if_pos hm])]; rfl
 · rw [if_neg hm, List.filterMap_cons_some (b := { e with gone := t }) (by unfold cl; rw [if_pos h3, if_neg hm])]; rfl
theorem put_length (h : Run l) : (putR l k v t).length = match nowR l k with
 | some e => if e.made = t then l.length else l.length + 1
 | none => l.length + 1 := by
 have h1 := upd_length (k := k) (h := clo (hist l k) t ++ [newE k v t]) h.ord
 unfold putR
 rw [List.length_append, List.length_singleton] at h1
 generalize (upd l k (clo (hist l k) t ++ [newE k v t])).length = n at h1 ⊢
 cases hn : nowR l k with
 | none => rw [hist_now_none hn] at h1; show n = l.length + 1; omega
 | some e =>
  obtain ⟨a, ha, hc⟩ := clo_now (t := t) h.ord hn
  rw [hc, ha] at h1
  dsimp only
  by_cases hm : e.made = t
  · rw [if_pos hm] at *; simp at h1 ⊢; omega
  · rw [if_neg hm] at *; simp at h1 ⊢; omega
def dput (l : List DElem) (k : DKey) (t : Int) : Nat := match nowR l k with
 | some e => if e.made = t then 0 else 1
 | none => 1
theorem put_len (h : Run l) : (putR l k v t).length = l.length + dput l k t := by
 rw [put_length h]
 unfold dput
 cases nowR l k with
 | none => rfl
 | some e => dsimp only; split <;> rfl
theorem cut_len (h : Run l) {e : DElem} (hn : nowR l k = some e) : (cutR l k t).length + (if e.made = t then 1 else 0) = l.length := by
 have h1 := upd_length (k := k) (h := clo (hist l k) t) h.ord
 unfold cutR
 generalize (upd l k (clo (hist l k) t)).length = n at h1 ⊢
 obtain ⟨a, ha, hc⟩ := clo_now (t := t) h.ord hn
 rw [hc, ha] at h1
 by_cases hm : e.made = t
 · rw [if_pos hm] at *; simp at h1 ⊢; omega
 · rw [if_neg hm] at *; simp at h1 ⊢; omega
theorem nowR_other {l m : List DElem} {k : DKey} (h : hist l k = hist m k) : nowR l k = nowR m k := by unfold nowR; rw [h]
theorem now_put_self (h : Run l) (ht : lastL l ≤ t) (hc : chkE (newE k v t) = 0) (hn : (putR l k v t).length ≤ 400) : nowR (putR l k v t) k = some (newE k v t) := by
 have h2 := h.putR ht hc hn
 rw [← nowR_at h2 (Int.le_of_eq (last_put h ht hc))]
 exact at_put_self h ht hc (Int.le_refl _)
theorem now_cut_self (h : Run l) (ht : lastL l ≤ t) (h0 : 1 ≤ t) (h1 : t ≤ 2147483647) : nowR (cutR l k t) k = none := by
 rw [← nowR_at (h.cutR ht h0 h1 k) (last_cut h ht h0 h1)]
 exact at_cut_self h ht h0 h1 (Int.le_refl _)
end
end Go.Proofs.YtacjdfhllomccaaGreatDoor
