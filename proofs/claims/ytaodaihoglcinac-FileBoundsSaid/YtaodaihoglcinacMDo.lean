/- Plain Lean: changes that are done. Its conditions: none. -/
import Derived.Test.YtaodaihoglcinacMChange
namespace Go.Proofs.Ytaodaihoglcinac
set_option linter.unusedVariables false
set_option linter.unusedSimpArgs false

/-- What a change makes of a key's records. -/
def doH (x : Option DChange) (t : Int) (h : List DElem) : List DElem := match x with
  | none => h
  | some c => if c.has then clo h t ++ [newE c.key c.is_ t] else clo h t
structure DoSpec (l : List DElem) (cs : List DChange) (t : Int) (m : List DElem) : Prop where
  run : Run m
  last : lastL m ≤ t
  at_ : ∀ k, hist m k = doH (chAt cs k) t (hist l k)
/-- What there is still, as a value. -/
def nowV (l : List DElem) (k : DKey) : Option ByteArray := (nowR l k).map (·.val)
theorem nowV_at {l : List DElem} (h : Run l) {u : Int} (hu : lastL l ≤ u) (k : DKey) : vAt l k u = nowV l k := by
  unfold vAt nowV; rw [nowR_at h hu]
theorem nowV_hist {l m : List DElem} {k : DKey} (h : hist l k = hist m k) : nowV l k = nowV m k := by unfold nowV; rw [nowR_other h]
/-- What a list of changes must find. -/
structure DoPre (m : List DElem) (cs : List DChange) (t : Int) : Prop where
  run : Run m
  last : lastL m ≤ t
  lo : 1 ≤ t
  hi : t ≤ 2147483647
  had : ∀ c ∈ cs, nowV m c.key = fr c
variable {ρ : Type}
theorem do_put {m : List DElem} {c : DChange} {cs : List DChange} {t : Int} (g : (c :: cs).Pairwise KeyLt) (h : DoPre m (c :: cs) t) (hk : chkK c.key = 0) (hv : c.is_.size ≤ 40) (hlen : (putR m c.key c.is_ t).length ≤ 400) :
    DoPre (putR m c.key c.is_ t) cs t := by
  have hc := chkE_new hk h.lo h.hi hv
  refine ⟨h.run.putR h.last hc hlen, Int.le_of_eq (last_put h.run h.last hc), h.lo, h.hi, fun d hd => ?_⟩
  rw [List.pairwise_cons] at g
  have hne := (g.1 d hd).ne
  rw [nowV_hist (hist_put_other h.run (fun e => hne e.symm))]
  exact h.had d (by simp [hd])
theorem do_cut {m : List DElem} {c : DChange} {cs : List DChange} {t : Int} (g : (c :: cs).Pairwise KeyLt) (h : DoPre m (c :: cs) t) : DoPre (cutR m c.key t) cs t := by
  refine ⟨h.run.cutR h.last h.lo h.hi _, last_cut h.run h.last h.lo h.hi, h.lo, h.hi, fun d hd => ?_⟩
  rw [List.pairwise_cons] at g
  have hne := (g.1 d hd).ne
  rw [nowV_hist (hist_cut_other h.run (fun e => hne e.symm))]
  exact h.had d (by simp [hd])
theorem DoSpec.nil {m : List DElem} {t : Int} (h : DoPre m [] t) : DoSpec m [] t m := ⟨h.run, h.last, fun k => rfl⟩
theorem DoSpec.cons {l m n : List DElem} {c : DChange} {cs : List DChange} {t : Int} (g : (c :: cs).Pairwise KeyLt) (h : DoSpec m cs t n) (hs : hist m c.key = doH (some c) t (hist l c.key)) (ho : ∀ k, k ≠ c.key → hist m k = hist l k) : DoSpec l (c :: cs) t n := by
  refine ⟨h.run, h.last, fun k => ?_⟩
  rw [h.at_, chAt_cons]
  rw [List.pairwise_cons] at g
  by_cases hk : c.key = k
  · subst hk
    rw [if_pos rfl, chAt_gt g.1, ← hs]; rfl
  · rw [if_neg hk, ho k (fun e => hk e.symm)]
theorem do_had {c : DChange} (hf : FormC c) (hd : differs c = true) (hh : c.has = false) {l : List DElem} (h : nowV l c.key = fr c) : ∃ e, nowR l c.key = some e := by
  rw [differs_iff hf] at hd
  have h1 : to c = none := by unfold to; rw [hh]; rfl
  have h2 : fr c ≠ none := fun e => by rw [e, h1] at hd; simp at hd
  cases hn : nowR l c.key with
  | none => unfold nowV at h; rw [hn] at h; exact absurd h.symm h2
  | some e => exact ⟨e, rfl⟩
/-- From the time of the changes on. -/
theorem DoSpec.late {l m : List DElem} {cs : List DChange} {t : Int} (hl : Run l) (h : DoSpec l cs t m) (ho : cs.Pairwise KeyLt) (ht : lastL l ≤ t) (h0 : 1 ≤ t) (h1 : t ≤ 2147483647) {u : Int} (hu : t ≤ u) (k : DKey) :
    vAt m k u = match chAt cs k with | none => nowV l k | some c => to c := by
  have hm := h.at_ k
  unfold vAt
  rw [atR_hist, hm]
  cases hc : chAt cs k with
  | none =>
    show ((hist l k).find? fun e => live e u).map _ = _
    rw [← atR_hist]
    exact nowV_at hl (by omega) k
  | some c =>
    have hk := ((chAt_some ho).1 hc).2
    obtain ⟨c1, c2, c3⟩ := hl.clo ht h0 h1 k
    have hno := find_clo_late (hist l k) (fun e he => (c3 e he).1) h0 hu
    unfold doH
    dsimp only
    by_cases hh : c.has = true
    · rw [if_pos hh, List.find?_append, hno, Option.none_or, List.find?_cons_of_pos (by rw [live_iff]; unfold newE; dsimp only; omega)]
      unfold to; rw [hh]; rfl
    · rw [if_neg hh, hno]
      unfold to; rw [show c.has = false by simpa using hh]; rfl
/-- Ahead of it. -/
theorem DoSpec.past {l m : List DElem} {cs : List DChange} {t : Int} (h : DoSpec l cs t m) {u : Int} (hu : u < t) (k : DKey) : vAt m k u = vAt l k u := by
  have hm := h.at_ k
  unfold vAt
  rw [atR_hist, atR_hist, hm]
  have hval : ∀ o : Option DElem, (o.map (endE t)).map (·.val) = o.map (·.val) := fun o => by
    cases o with
    | none => rfl
    | some e => show some (endE t e).val = some e.val; unfold endE; split <;> rfl
  cases chAt cs k with
  | none => rfl
  | some c =>
    unfold doH
    dsimp only
    split
    · rw [List.find?_append, find_clo_past _ hu]
      cases (hist l k).find? fun e => live e u with
      | some e => rw [Option.map_some, Option.some_or]; exact hval (some e)
      | none =>
        rw [Option.map_none, Option.none_or, List.find?_cons_of_neg (by rw [live_iff]; unfold newE; dsimp only; omega)]; rfl
    · rw [find_clo_past _ hu, hval]
end Go.Proofs.Ytaodaihoglcinac
