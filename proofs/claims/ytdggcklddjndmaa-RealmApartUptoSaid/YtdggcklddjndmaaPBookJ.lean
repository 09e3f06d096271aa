/- Plain Lean: what the laws of books share. Its conditions: none. -/
import Derived.Test.YtdggcklddjndmaaPRealmJ
import Derived.Test.YtdggcklddjndmaaSameFJ
import Derived.Test.YtdggcklddjndmaaPRunLJ
namespace Go.Proofs.Ytdggcklddjndmaa
set_option linter.unusedVariables false
set_option linter.unusedSimpArgs false
variable {F : Nat} [Big F]
theorem bef_pfs {a b : DElem} (h : a.key.pfs < b.key.pfs) : Bef a b := bef_iff.2 (.inl (cmpK_pfs_lt h))
def putP (l : List DElem) (p : Int) (m : List DElem) : List DElem := loP l p ++ (m ++ hiP l p)
theorem mem_putP {l m : List DElem} {p : Int} {e : DElem} : e ∈ putP l p m ↔ e ∈ m ∨ e ∈ l ∧ e.key.pfs ≠ p := by
 unfold putP
 rw [List.mem_append, List.mem_append, mem_loP, mem_hiP]
 constructor
 · rintro (⟨h, h2⟩ | h | ⟨h, h2⟩)
   · exact .inr ⟨h, by omega⟩
   · exact .inl h
   · exact .inr ⟨h, by omega⟩
 · rintro (h | ⟨h, h2⟩)
   · exact .inr (.inl h)
   · rcases Int.lt_trichotomy e.key.pfs p with h3 | h3 | h3
     · exact .inl ⟨h, h3⟩
     · exact absurd h3 h2
     · exact .inr (.inr ⟨h, h3⟩)
theorem run_putP {l m : List DElem} {p : Int} (hl : Run l) (hm : Run m) (hk : ∀ e ∈ m, e.key.pfs = p) (hn : (putP l p m).length ≤ 400) : Run (putP l p m) := by
 refine ⟨hn, fun e he => ?_, ?_⟩
 · rcases mem_putP.1 he with h | h
   · exact hm.ok e h
   · exact hl.ok e h.1
 · unfold putP
   rw [List.pairwise_append, List.pairwise_append]
   refine ⟨hl.ord.sublist List.filter_sublist, ⟨hm.ord, hl.ord.sublist List.filter_sublist, fun a ha b hb => ?_⟩, fun a ha b hb => ?_⟩
   · refine bef_pfs ?_
     rw [hk a ha]; exact (mem_hiP.1 hb).2
   · refine bef_pfs ?_
     have h1 := (mem_loP.1 ha).2
     rcases List.mem_append.1 hb with hb | hb
     · rw [hk b hb]; exact h1
     · have := (mem_hiP.1 hb).2; omega
theorem atP_append (a b : List DElem) (q : Int) : atP (a ++ b) q = atP a q ++ atP b q := List.filter_append ..
theorem atP_none {m : List DElem} {q : Int} (hk : ∀ e ∈ m, e.key.pfs ≠ q) : atP m q = [] := by
 unfold atP; rw [List.filter_eq_nil_iff]; intro e he; simpa using hk e he
theorem atP_putP_other {l m : List DElem} {p q : Int} (hl : l.Pairwise Bef) (hk : ∀ e ∈ m, e.key.pfs = p) (hne : q ≠ p) : atP (putP l p m) q = atP l q := by
 conv => rhs; rw [parts3 p hl]
 unfold putP
 rw [atP_append, atP_append, atP_append, atP_append, atP_none (m := m) (q := q), atP_none (m := atP l p) (q := q)]
 · intro e he; have := (mem_atP.1 he).2; omega
 · intro e he; have := hk e he; omega
theorem Run.atP {l : List DElem} (h : Run l) (p : Int) : Run (Go.Proofs.Ytdggcklddjndmaa.atP l p) := h.sub List.filter_sublist
theorem atP_pfs (l : List DElem) (p : Int) : ∀ e ∈ atP l p, e.key.pfs = p := fun e he => (mem_atP.1 he).2
theorem putR_pfs {m : List DElem} {k : DKey} {v : ByteArray} {t : Int} (hm : Run m) (hk : ∀ e ∈ m, e.key.pfs = k.pfs) : ∀ e ∈ putR m k v t, e.key.pfs = k.pfs := fun e he => by
 rcases (mem_upd hm.ord).1 he with h | h
 · rw [new_keys (hist_keys m k) e h]
 · exact hk e h.1
theorem cutR_pfs {m : List DElem} {k : DKey} {t : Int} (hm : Run m) (hk : ∀ e ∈ m, e.key.pfs = k.pfs) : ∀ e ∈ cutR m k t, e.key.pfs = k.pfs := fun e he => by
 rcases (mem_upd hm.ord).1 he with h | h
 · rw [keys_clo (hist_keys m k) e h]
 · exact hk e h.1
theorem withB_ok {b : DBook} {p : Int} {m : List DElem} (h : (withB b p m).2 = 0) : withB b p m = (⟨putP b.run p m, b.roles, b.fed⟩, 0) ∧ (putP b.run p m).length ≤ 400 := by
 unfold withB at h ⊢
 split at h
 · cases h
 · rename_i h4
   rw [if_neg h4]
   refine ⟨rfl, ?_⟩
   unfold putP
   rw [List.length_append, List.length_append]; omega
theorem book_put {b : DBook} {p : Int} {m : List DElem} (hb : Book b) (hr : roleAt b p = 1) (hm : Run m) (hk : ∀ e ∈ m, e.key.pfs = p) (hn : (putP b.run p m).length ≤ 400) : Book ⟨putP b.run p m, b.roles, b.fed⟩ := by
 refine ⟨run_putP hb.run hm hk hn, hb.role, fun e he => ?_⟩
 show roleAt b e.key.pfs ≠ 0 ∧ (roleAt b e.key.pfs = 2 → lastE e ≤ fedAt b e.key.pfs)
 rcases mem_putP.1 he with h | h
 · rw [hk e h, hr]; exact ⟨by decide, fun h => absurd h (by decide)⟩
 · exact hb.elem e h.1
theorem putB_ok {b : DBook} {k : DKey} {v : ByteArray} {t : Int} (h : (putB b k v t).2 = 0) :
 Book b ∧ 0 ≤ k.pfs ∧ k.pfs ≤ 15 ∧ roleAt b k.pfs = 1 ∧ putE (atP b.run k.pfs) k v t = 0 ∧ putB b k v t = (⟨putP b.run k.pfs (putR (atP b.run k.pfs) k v t), b.roles, b.fed⟩, 0) ∧ Book (putB b k v t).1 := by
 unfold putB at h ⊢
 split at h
 · rename_i h1; exact absurd h h1
 · rename_i h1
   split at h
   · cases h
   · rename_i h2
     split at h
     · rename_i h3; exact absurd h h3
     · rename_i h3
       have hl : lookB b k.pfs = 0 := by simpa using h1
       have hr : roleAt b k.pfs = 1 := by simpa using h2
       have he : putE (atP b.run k.pfs) k v t = 0 := by simpa using h3
       obtain ⟨hb, p0, p1⟩ := lookB_zero.1 hl
       obtain ⟨e1, e2⟩ := withB_ok h
       obtain ⟨hm, hc, ht, hn⟩ := putE_zero.1 he
       rw [if_neg h1, if_neg h2, if_neg h3, e1]
       exact ⟨hb, p0, p1, hr, he, rfl, book_put hb hr (hm.putR ht hc hn) (putR_pfs hm (atP_pfs _ _)) e2⟩
theorem cutB_ok {b : DBook} {k : DKey} {t : Int} (h : (cutB b k t).2 = 0) :
 Book b ∧ 0 ≤ k.pfs ∧ k.pfs ≤ 15 ∧ roleAt b k.pfs = 1 ∧ cutE (atP b.run k.pfs) k t = 0 ∧ cutB b k t = (⟨putP b.run k.pfs (cutR (atP b.run k.pfs) k t), b.roles, b.fed⟩, 0) ∧ Book (cutB b k t).1 := by
 unfold cutB at h ⊢
 split at h
 · rename_i h1; exact absurd h h1
 · rename_i h1
   split at h
   · cases h
   · rename_i h2
     split at h
     · rename_i h3; exact absurd h h3
     · rename_i h3
       have hl : lookB b k.pfs = 0 := by simpa using h1
       have hr : roleAt b k.pfs = 1 := by simpa using h2
       have he : cutE (atP b.run k.pfs) k t = 0 := by simpa using h3
       obtain ⟨hb, p0, p1⟩ := lookB_zero.1 hl
       obtain ⟨e1, e2⟩ := withB_ok h
       obtain ⟨hm, hc, h4, h5, h6, h7⟩ := cutE_zero.1 he
       rw [if_neg h1, if_neg h2, if_neg h3, e1]
       exact ⟨hb, p0, p1, hr, he, rfl, book_put hb hr (hm.cutR h6 h4 h5 k) (cutR_pfs hm (atP_pfs _ _)) e2⟩
def bk : DBook := ⟨[], ⟨1, 2, 0, 0, 0, 0, 0, 0, 0, 0, 0, 0, 0, 0, 0, 0⟩, ⟨0, 0, 0, 0, 0, 0, 0, 0, 0, 0, 0, 0, 0, 0, 0, 0⟩⟩
theorem fed_set (b : DBook) (p q r : Int) (l : List DElem) (o : DA16) (p0 : 0 ≤ p) (p1 : p ≤ 15) (q0 : 0 ≤ q) (q1 : q ≤ 15) : fedAt ⟨l, o, b.fed.set p.toNat r⟩ q = if p = q then r else fedAt b q := by
 unfold fedAt
 show ((b.fed.set p.toNat r).list[q.toNat]?).getD 0 = _
 rw [DA16.list_set, List.getElem?_set]
 by_cases h : p = q
 · rw [if_pos (by rw [h]), if_pos h, if_pos (by rw [DA16.list_length]; omega)]; rfl
 · rw [if_neg (by omega), if_neg h]
end Go.Proofs.Ytdggcklddjndmaa
