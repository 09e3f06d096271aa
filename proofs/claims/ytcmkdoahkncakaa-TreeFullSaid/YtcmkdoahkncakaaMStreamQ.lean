/- Plain Lean: what is new of a realm, and how it is put among the records of another run. Its conditions: none. -/
import Derived.Test.YtcmkdoahkncakaaMRunQ
namespace Go.Proofs.Ytcmkdoahkncakaa
set_option linter.unusedVariables false
set_option linter.unusedSimpArgs false
def SpO (p e : DElem) : Prop := cmpS (spotE p) (spotE e) < 0
theorem SpO.trans {a b c : DElem} (h : SpO a b) (k : SpO b c) : SpO a c := cmp_cmpS.lt_trans h k
def thenE (t : Int) (e : DElem) : DElem := if t < e.gone then { e with gone := 0 } else e
def uptoR (l : List DElem) (pfs t : Int) : List DElem := (l.filter fun e => decide (e.made ≤ t) && e.key.pfs == pfs).map (thenE t)
def freshR (l : List DElem) (pfs from_ to : Int) : List DElem := (uptoR l pfs to).filter fun e => decide (from_ < lastE e)
theorem thenE_key (t : Int) (e : DElem) : (thenE t e).key = e.key := by unfold thenE; split <;> rfl
theorem thenE_made (t : Int) (e : DElem) : (thenE t e).made = e.made := by unfold thenE; split <;> rfl
theorem thenE_val (t : Int) (e : DElem) : (thenE t e).val = e.val := by unfold thenE; split <;> rfl
theorem thenE_spot (t : Int) (e : DElem) : spotE (thenE t e) = spotE e := by unfold spotE; rw [thenE_key, thenE_made]
theorem thenE_gone (t : Int) (e : DElem) : (thenE t e).gone = if t < e.gone then 0 else e.gone := by unfold thenE; split <;> rfl
theorem thenE_ok {t : Int} {e : DElem} (h : chkE e = 0) : chkE (thenE t e) = 0 := by
 obtain ⟨h1, h2, h3, h4, h5⟩ := chkE_ok h
 unfold chkE
 rw [thenE_key, thenE_made, thenE_val, thenE_gone, if_neg (by rw [h1]; simp), if_neg, if_neg (by omega)]
 split <;> omega
theorem mem_uptoR {l : List DElem} {pfs t : Int} {x : DElem} : x ∈ uptoR l pfs t ↔ ∃ e ∈ l, e.made ≤ t ∧ e.key.pfs = pfs ∧ x = thenE t e := by
 simp only [uptoR, List.mem_map, List.mem_filter, Bool.and_eq_true, decide_eq_true_eq, beq_iff_eq]
 constructor
 · rintro ⟨e, ⟨h1, h2, h3⟩, rfl⟩; exact ⟨e, h1, h2, h3, rfl⟩
 · rintro ⟨e, h1, h2, h3, rfl⟩; exact ⟨e, ⟨h1, h2, h3⟩, rfl⟩
theorem Run.upto {l : List DElem} (h : Run l) (pfs t : Int) : Run (uptoR l pfs t) := by
 refine ⟨?_, fun x hx => ?_, ?_⟩
 · unfold uptoR; rw [List.length_map]; exact Nat.le_trans (List.length_filter_le _ _) h.len
 · obtain ⟨e, he, _, _, rfl⟩ := mem_uptoR.1 hx
   exact thenE_ok (h.ok e he)
 · unfold uptoR
   rw [List.pairwise_map]
   refine (h.ord.sublist List.filter_sublist).imp_of_mem fun {a b} ha hb hab => ?_
   have hb' : b.made ≤ t := by have := (List.mem_filter.1 hb).2; simp at this; exact this.1
   refine ⟨by rw [thenE_spot, thenE_spot]; exact hab.1, fun hk => ?_⟩
   rw [thenE_key, thenE_key] at hk
   have := hab.2 hk
   rw [thenE_gone, thenE_made, if_neg (by omega)]
   exact this
theorem Run.fresh {l : List DElem} (h : Run l) (pfs a b : Int) : Run (freshR l pfs a b) := (h.upto pfs b).sub List.filter_sublist
end Go.Proofs.Ytcmkdoahkncakaa
