/- Plain Lean: what is new of a realm, and how it is put among the records of another run. Its conditions: none. -/
import Derived.Test.YtfbjmeehmanjnaaMRunJ
namespace Go.Proofs.Ytfbjmeehmanjnaa
set_option linter.unusedVariables false
set_option linter.unusedSimpArgs false
def SpO (p e : DElem) : Prop := cmpS (spotE p) (spotE e) < 0
theorem SpO.trans {a b c : DElem} (h : SpO a b) (k : SpO b c) : SpO a c := cmp_cmpS.lt_trans h k
theorem SpO.ne {a b : DElem} (h : SpO a b) : spotE a ≠ spotE b := fun e => by
 unfold SpO at h; rw [e, cmp_cmpS.refl] at h; omega
theorem spots_of {l : List DElem} (h : l.Pairwise Bef) : l.Pairwise SpO := h.imp fun hb => hb.1
def belowS (l : List DElem) (s : DSpot) : List DElem := l.filter fun x => decide (cmpS (spotE x) s < 0)
def aboveS (l : List DElem) (s : DSpot) : List DElem := l.filter fun x => decide (0 < cmpS (spotE x) s)
def ins1 (l : List DElem) (e : DElem) : List DElem := belowS l (spotE e) ++ e :: aboveS l (spotE e)
theorem mem_belowS {l : List DElem} {s : DSpot} {x : DElem} : x ∈ belowS l s ↔ x ∈ l ∧ cmpS (spotE x) s < 0 := by simp [belowS]
theorem mem_aboveS {l : List DElem} {s : DSpot} {x : DElem} : x ∈ aboveS l s ↔ x ∈ l ∧ 0 < cmpS (spotE x) s := by simp [aboveS]
theorem ins1_sorted {l : List DElem} (h : l.Pairwise SpO) (e : DElem) : (ins1 l e).Pairwise SpO := by
 unfold ins1
 rw [List.pairwise_append, List.pairwise_cons]
 refine ⟨h.sublist List.filter_sublist, ⟨fun x hx => cmp_cmpS.pos.1 (mem_aboveS.1 hx).2, h.sublist List.filter_sublist⟩, fun a ha b hb => ?_⟩
 have h1 := (mem_belowS.1 ha).2
 rcases List.mem_cons.1 hb with rfl | hb
 · exact h1
 · exact cmp_cmpS.lt_trans h1 (cmp_cmpS.pos.1 (mem_aboveS.1 hb).2)
theorem spo_split : ∀ {l : List DElem} (s : DSpot), l.Pairwise SpO → l = belowS l s ++ (l.filter (fun x => spotE x == s) ++ aboveS l s)
 | [], _, _ => rfl
 | x :: l, s, h => by
  rw [List.pairwise_cons] at h
  have ih := spo_split s h.2
  have h0 := cmp_cmpS.zero (spotE x) s
  unfold belowS aboveS at *
  rcases Int.lt_trichotomy (cmpS (spotE x) s) 0 with hx | hx | hx
  · rw [List.filter_cons_of_pos (by simpa using hx), List.filter_cons_of_neg (by simp; intro e; rw [h0.2 e] at hx; omega), List.filter_cons_of_neg (by simp; omega), List.cons_append, ← ih]
  · have e : spotE x = s := h0.1 hx
    have hb : l.filter (fun x => decide (cmpS (spotE x) s < 0)) = [] := by
     rw [List.filter_eq_nil_iff]; intro y hy hc
     have := h.1 y hy; unfold SpO at this; rw [e] at this
     have := cmp_cmpS.neg s (spotE y); simp at hc; omega
    rw [List.filter_cons_of_neg (by simp; omega), List.filter_cons_of_pos (by simpa using e), List.filter_cons_of_neg (by simp; omega), hb]
    rw [hb, List.nil_append] at ih
    rw [List.nil_append, List.cons_append, ← ih]
  · have hb : ∀ y ∈ l, 0 < cmpS (spotE y) s := fun y hy => by
     have := h.1 y hy; unfold SpO at this
     have h3 := cmp_cmpS.pos.1 hx
     exact cmp_cmpS.pos.2 (cmp_cmpS.lt_trans h3 this)
    have e1 : l.filter (fun x => decide (cmpS (spotE x) s < 0)) = [] := by
     rw [List.filter_eq_nil_iff]; intro y hy hc
     have := hb y hy; simp at hc; omega
    have e2 : l.filter (fun x => spotE x == s) = [] := by
     rw [List.filter_eq_nil_iff]; intro y hy hc
     have := hb y hy; rw [(cmp_cmpS.zero _ _).2 (by simpa using hc)] at this; omega
    have e3 : l.filter (fun x => decide (0 < cmpS (spotE x) s)) = l := List.filter_eq_self.2 fun y hy => by simpa using hb y hy
    rw [List.filter_cons_of_neg (by simp; omega), List.filter_cons_of_neg (by simp; intro e; rw [h0.2 e] at hx; omega), List.filter_cons_of_pos (by simpa using hx), e1, e2, e3]; rfl
theorem spo_at {l : List DElem} (s : DSpot) (h : l.Pairwise SpO) : (∃ x, l.filter (fun x => spotE x == s) = [x] ∧ x ∈ l ∧ spotE x = s) ∨ l.filter (fun x => spotE x == s) = [] ∧ ∀ x ∈ l, spotE x ≠ s := by
 cases hf : l.filter (fun x => spotE x == s) with
 | nil =>
  refine .inr ⟨rfl, fun x hx e => ?_⟩
  have : x ∈ l.filter (fun x => spotE x == s) := List.mem_filter.2 ⟨hx, by simpa using e⟩
  rw [hf] at this; simp at this
 | cons a m =>
  have ha : a ∈ l ∧ spotE a = s := by
   have : a ∈ l.filter (fun x => spotE x == s) := by rw [hf]; simp
   simpa using this
  refine .inl ⟨a, ?_, ha.1, ha.2⟩
  cases m with
  | nil => rfl
  | cons b m =>
   exfalso
   have hp : (l.filter (fun x => spotE x == s)).Pairwise SpO := h.sublist List.filter_sublist
   rw [hf, List.pairwise_cons] at hp
   have hb : b ∈ l ∧ spotE b = s := by
    have : b ∈ l.filter (fun x => spotE x == s) := by rw [hf]; simp
    simpa using this
   exact (hp.1 b (by simp)).ne (ha.2.trans hb.2.symm)
theorem ins1_length (l : List DElem) (e : DElem) : (ins1 l e).length ≤ l.length + 1 := by
 unfold ins1 belowS aboveS
 induction l with
 | nil => simp
 | cons x l ih =>
  simp only [List.length_append, List.length_cons] at ih ⊢
  by_cases h1 : cmpS (spotE x) (spotE e) < 0
  · rw [List.filter_cons_of_pos (by simpa using h1), List.filter_cons_of_neg (by simp; omega), List.length_cons]; omega
  · by_cases h2 : 0 < cmpS (spotE x) (spotE e)
    · rw [List.filter_cons_of_neg (by simpa using h1), List.filter_cons_of_pos (by simpa using h2), List.length_cons]; omega
    · rw [List.filter_cons_of_neg (by simpa using h1), List.filter_cons_of_neg (by simpa using h2)]; omega
def mergeR (l fresh : List DElem) : List DElem := fresh.foldl ins1 l
theorem mergeR_sorted : ∀ (fresh : List DElem) {l : List DElem}, l.Pairwise SpO → (mergeR l fresh).Pairwise SpO
 | [], _, h => h
 | e :: fresh, l, h => mergeR_sorted fresh (ins1_sorted h e)
theorem mergeR_length : ∀ (fresh l : List DElem), (mergeR l fresh).length ≤ l.length + fresh.length
 | [], l => by simp [mergeR]
 | e :: fresh, l => by
  have h1 := mergeR_length fresh (ins1 l e)
  have h2 := ins1_length l e
  rw [show mergeR l (e :: fresh) = mergeR (ins1 l e) fresh from rfl, List.length_cons]; omega
def thenE (t : Int) (e : DElem) : DElem := if t < e.gone then { e with gone := 0 } else e
def uptoR (l : List DElem) (pfs t : Int) : List DElem := (l.filter fun e => decide (e.made ≤ t) && e.key.pfs == pfs).map (thenE t)
def freshR (l : List DElem) (pfs from_ to : Int) : List DElem := (uptoR l pfs to).filter fun e => decide (from_ < lastE e)
theorem thenE_key (t : Int) (e : DElem) : (thenE t e).key = e.key := by unfold thenE; split <;> rfl
theorem thenE_made (t : Int) (e : DElem) : (thenE t e).made = e.made := by unfold thenE; split <;> rfl
theorem thenE_val (t : Int) (e : DElem) : (thenE t e).val = e.val := by unfold thenE; split <;> rfl
theorem thenE_spot (t : Int) (e : DElem) : spotE (thenE t e) = spotE e := by unfold spotE; rw [thenE_key, thenE_made]
theorem thenE_gone (t : Int) (e : DElem) : (thenE t e).gone = if t < e.gone then 0 else e.gone := by unfold thenE; split <;> rfl
theorem thenE_ok {t : Int} {e : DElem} (h : chkE e = 0) : chkE (thenE t e) = 0 := by
 obtain ⟨h1, h2, h3, h4, h5⟩ := chkE_ok h
 unfold chkE
 rw [thenE_key, thenE_made, thenE_val, thenE_gone, if_neg (by rw [h1]; simp), if_neg, if_neg (by omega)]
 split <;> omega
theorem mem_uptoR {l : List DElem} {pfs t : Int} {x : DElem} : x ∈ uptoR l pfs t ↔ ∃ e ∈ l, e.made ≤ t ∧ e.key.pfs = pfs ∧ x = thenE t e := by
 simp only [uptoR, List.mem_map, List.mem_filter, Bool.and_eq_true, decide_eq_true_eq, beq_iff_eq]
 constructor
 · rintro ⟨e, ⟨h1, h2, h3⟩, rfl⟩; exact ⟨e, h1, h2, h3, rfl⟩
 · rintro ⟨e, h1, h2, h3, rfl⟩; exact ⟨e, ⟨h1, h2, h3⟩, rfl⟩
theorem Run.upto {l : List DElem} (h : Run l) (pfs t : Int) : Run (uptoR l pfs t) := by
 refine ⟨?_, fun x hx => ?_, ?_⟩
 · unfold uptoR; rw [List.length_map]; exact Nat.le_trans (List.length_filter_le _ _) h.len
 · obtain ⟨e, he, _, _, rfl⟩ := mem_uptoR.1 hx
   exact thenE_ok (h.ok e he)
 · unfold uptoR
   rw [List.pairwise_map]
   refine (h.ord.sublist List.filter_sublist).imp_of_mem fun {a b} ha hb hab => ?_
   have hb' : b.made ≤ t := by have := (List.mem_filter.1 hb).2; simp at this; exact this.1
   refine ⟨by rw [thenE_spot, thenE_spot]; exact hab.1, fun hk => ?_⟩
   rw [thenE_key, thenE_key] at hk
   have := hab.2 hk
   rw [thenE_gone, thenE_made, if_neg (by omega)]
   exact this
theorem Run.fresh {l : List DElem} (h : Run l) (pfs a b : Int) : Run (freshR l pfs a b) := (h.upto pfs b).sub List.filter_sublist
end Go.Proofs.Ytfbjmeehmanjnaa
