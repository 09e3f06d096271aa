/- Plain Lean: what is new of a realm, and how it is put among the records of another run. Its conditions: none. -/
import Derived.Test.YtcmkdoahkncakaaMRunJ
namespace Go.Proofs.Ytcmkdoahkncakaa
set_option linter.unusedVariables false
set_option linter.unusedSimpArgs false
def SpO (p e : DElem) : Prop := cmpS (spotE p) (spotE e) < 0
theorem SpO.irrefl {e : DElem} (h : SpO e e) : False := by unfold SpO at h; rw [cmp_cmpS.refl] at h; omega
theorem SpO.asymm {a b : DElem} (h : SpO a b) (k : SpO b a) : False := by
 unfold SpO at h k; have := cmp_cmpS.neg (spotE a) (spotE b); omega
theorem SpO.trans {a b c : DElem} (h : SpO a b) (k : SpO b c) : SpO a c := cmp_cmpS.lt_trans h k
theorem spo_ext : ∀ {l m : List DElem}, l.Pairwise SpO → m.Pairwise SpO → (∀ e, e ∈ l ↔ e ∈ m) → l = m
 | [], [], _, _, _ => rfl
 | [], b :: m, _, _, h => by have := (h b).2 (by simp); simp at this
 | a :: l, [], _, _, h => by have := (h a).1 (by simp); simp at this
 | a :: l, b :: m, hl, hm, h => by
  rw [List.pairwise_cons] at hl hm
  have hab : a = b := by
   have h1 := (h a).1 (by simp)
   have h2 := (h b).2 (by simp)
   rcases List.mem_cons.1 h1 with h1 | h1
   · exact h1
   · rcases List.mem_cons.1 h2 with h2 | h2
     · exact h2.symm
     · exact (SpO.asymm (hm.1 a h1) (hl.1 b h2)).elim
  subst hab
  congr 1
  refine spo_ext hl.2 hm.2 fun e => ?_
  constructor
  · intro he
    rcases List.mem_cons.1 ((h e).1 (List.mem_cons_of_mem _ he)) with h1 | h1
    · subst h1; exact (SpO.irrefl (hl.1 _ he)).elim
    · exact h1
  · intro he
    rcases List.mem_cons.1 ((h e).2 (List.mem_cons_of_mem _ he)) with h1 | h1
    · subst h1; exact (SpO.irrefl (hm.1 _ he)).elim
    · exact h1
def belowS (l : List DElem) (s : DSpot) : List DElem := l.filter fun x => decide (cmpS (spotE x) s < 0)
def aboveS (l : List DElem) (s : DSpot) : List DElem := l.filter fun x => decide (0 < cmpS (spotE x) s)
def ins1 (l : List DElem) (e : DElem) : List DElem := belowS l (spotE e) ++ e :: aboveS l (spotE e)
theorem mem_belowS {l : List DElem} {s : DSpot} {x : DElem} : x ∈ belowS l s ↔ x ∈ l ∧ cmpS (spotE x) s < 0 := by simp [belowS]
theorem mem_aboveS {l : List DElem} {s : DSpot} {x : DElem} : x ∈ aboveS l s ↔ x ∈ l ∧ 0 < cmpS (spotE x) s := by simp [aboveS]
theorem mem_ins1 {l : List DElem} {e x : DElem} : x ∈ ins1 l e ↔ x = e ∨ x ∈ l ∧ spotE x ≠ spotE e := by
 unfold ins1
 rw [List.mem_append, List.mem_cons, mem_belowS, mem_aboveS]
 have h0 := cmp_cmpS.zero (spotE x) (spotE e)
 constructor
 · rintro (⟨h1, h2⟩ | h1 | ⟨h1, h2⟩)
   · exact .inr ⟨h1, fun h => by rw [h0.2 h] at h2; omega⟩
   · exact .inl h1
   · exact .inr ⟨h1, fun h => by rw [h0.2 h] at h2; omega⟩
 · rintro (h1 | ⟨h1, h2⟩)
   · exact .inr (.inl h1)
   · rcases Int.lt_trichotomy (cmpS (spotE x) (spotE e)) 0 with h | h | h
     · exact .inl ⟨h1, h⟩
     · exact (h2 (h0.1 h)).elim
     · exact .inr (.inr ⟨h1, h⟩)
theorem ins1_sorted {l : List DElem} (h : l.Pairwise SpO) (e : DElem) : (ins1 l e).Pairwise SpO := by
 unfold ins1
 rw [List.pairwise_append, List.pairwise_cons]
 refine ⟨h.sublist List.filter_sublist, ⟨fun x hx => cmp_cmpS.pos.1 (mem_aboveS.1 hx).2, h.sublist List.filter_sublist⟩, fun a ha b hb => ?_⟩
 have h1 := (mem_belowS.1 ha).2
 rcases List.mem_cons.1 hb with rfl | hb
 · exact h1
 · exact cmp_cmpS.lt_trans h1 (cmp_cmpS.pos.1 (mem_aboveS.1 hb).2)
def thenE (t : Int) (e : DElem) : DElem := if t < e.gone then { e with gone := 0 } else e
def uptoR (l : List DElem) (pfs t : Int) : List DElem := (l.filter fun e => decide (e.made ≤ t) && e.key.pfs == pfs).map (thenE t)
def freshR (l : List DElem) (pfs from_ to : Int) : List DElem := (uptoR l pfs to).filter fun e => decide (from_ < lastE e)
theorem thenE_key (t : Int) (e : DElem) : (thenE t e).key = e.key := by unfold thenE; split <;> rfl
theorem thenE_made (t : Int) (e : DElem) : (thenE t e).made = e.made := by unfold thenE; split <;> rfl
theorem thenE_val (t : Int) (e : DElem) : (thenE t e).val = e.val := by unfold thenE; split <;> rfl
theorem thenE_spot (t : Int) (e : DElem) : spotE (thenE t e) = spotE e := by unfold spotE; rw [thenE_key, thenE_made]
theorem thenE_gone (t : Int) (e : DElem) : (thenE t e).gone = if t < e.gone then 0 else e.gone := by unfold thenE; split <;> rfl
theorem thenE_ok {t : Int} {e : DElem} (h : chkE e = 0) : chkE (thenE t e) = 0 := by
 obtain ⟨h1, h2, h3, h4, h5⟩ := chkE_ok h
 unfold chkE
 rw [thenE_key, thenE_made, thenE_val, thenE_gone, if_neg (by rw [h1]; simp), if_neg, if_neg (by omega)]
 split <;> omega
theorem mem_uptoR {l : List DElem} {pfs t : Int} {x : DElem} : x ∈ uptoR l pfs t ↔ ∃ e ∈ l, e.made ≤ t ∧ e.key.pfs = pfs ∧ x = thenE t e := by
 simp only [uptoR, List.mem_map, List.mem_filter, Bool.and_eq_true, decide_eq_true_eq, beq_iff_eq]
 constructor
 · rintro ⟨e, ⟨h1, h2, h3⟩, rfl⟩; exact ⟨e, h1, h2, h3, rfl⟩
 · rintro ⟨e, h1, h2, h3, rfl⟩; exact ⟨e, ⟨h1, h2, h3⟩, rfl⟩
theorem Run.upto {l : List DElem} (h : Run l) (pfs t : Int) : Run (uptoR l pfs t) := by
 refine ⟨?_, fun x hx => ?_, ?_⟩
 · unfold uptoR; rw [List.length_map]; exact Nat.le_trans (List.length_filter_le _ _) h.len
 · obtain ⟨e, he, _, _, rfl⟩ := mem_uptoR.1 hx
   exact thenE_ok (h.ok e he)
 · unfold uptoR
   rw [List.pairwise_map]
   refine (h.ord.sublist List.filter_sublist).imp_of_mem fun {a b} ha hb hab => ?_
   have hb' : b.made ≤ t := by have := (List.mem_filter.1 hb).2; simp at this; exact this.1
   refine ⟨by rw [thenE_spot, thenE_spot]; exact hab.1, fun hk => ?_⟩
   rw [thenE_key, thenE_key] at hk
   have := hab.2 hk
   rw [thenE_gone, thenE_made, if_neg (by omega)]
   exact this
theorem Run.fresh {l : List DElem} (h : Run l) (pfs a b : Int) : Run (freshR l pfs a b) := (h.upto pfs b).sub List.filter_sublist
end Go.Proofs.Ytcmkdoahkncakaa
