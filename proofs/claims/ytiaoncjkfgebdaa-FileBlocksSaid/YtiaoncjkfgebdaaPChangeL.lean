/- Plain Lean: what the laws of changes share. Its conditions: none. -/
import Derived.Test.YtiaoncjkfgebdaaPChange
import Derived.Test.YtiaoncjkfgebdaaPRunL
namespace Go.Proofs.Ytiaoncjkfgebdaa
set_option linter.unusedVariables false
set_option linter.unusedSimpArgs false
variable {F : Nat} [Big F]
theorem eqChange_self (p : List DChange) (hp : p.length ≤ 9223372036854775807) : slices_Equal_Change F p p = some true := by rw [eqChange p p hp, decide_eq_true rfl]
theorem two_eq : annalkeep_two = some [⟨⟨0, 0, 0⟩, 1, 3, ByteArray.mk #[97]⟩, ⟨⟨0, 0, 0⟩, 3, 0, ByteArray.mk #[98]⟩] := rfl
theorem good_one {c : DChange} (h1 : chkK c.key = 0) (h2 : c.was.size ≤ 40 ∧ c.is_.size ≤ 40) (h3 : FormC c) (h4 : differs c = true) : GoodC [c] := by
  refine ⟨by simp, ?_, ?_, ?_, ?_, by simp⟩ <;> (intro x hx; rw [List.mem_singleton] at hx; subst hx; assumption)
/-- A run of one key. -/
theorem betw_one {l : List DElem} {k : DKey} (hk : ∀ e ∈ l, e.key = k) (hl : 0 < l.length) (a b : Int) : BetwSpec l a b (dif k (vAt l k a) (vAt l k b)).toList := by
  have hn : ∀ k', k' ≠ k → ∀ t, vAt l k' t = none := fun k' hne t => by
    have : atR l k' t = none := atR_none.2 fun e he h => absurd (h.symm.trans (hk e he)) hne
    unfold vAt; rw [this]; rfl
  refine ⟨?_, fun k' => ?_, ?_⟩
  · unfold dif; split <;> simp
  · by_cases he : k' = k
    · subst he
      unfold dif
      split
      · rfl
      · rw [Option.toList_some, chAt_cons, if_pos (key_of _ _ _)]
    · rw [hn k' he, hn k' he]
      unfold dif
      rw [if_pos rfl]
      split
      · rfl
      · rw [Option.toList_some, chAt_cons, key_of, if_neg (fun e => he e.symm)]; rfl
  · unfold dif; split <;> simp; omega
theorem then_one {x y : DChange} (hk : x.key = y.key) (hm : to x = fr y) : ThenSpec [x] [y] (dif x.key (fr x) (to y)).toList := by
  refine ⟨?_, fun k => ?_, fun k => ?_⟩
  · unfold dif; split <;> simp
  · rw [chAt_cons, chAt_cons, ← hk]
    split
    · exact hm
    · trivial
  · rw [chAt_cons (c := x), chAt_cons (c := y), ← hk]
    by_cases he : x.key = k
    · rw [if_pos he, if_pos he]
      show _ = dif x.key (fr x) (to y)
      unfold dif
      split
      · rfl
      · rw [Option.toList_some, chAt_cons, if_pos ((key_of _ _ _).trans he)]
    · rw [if_neg he, if_neg he]
      unfold dif
      split
      · rfl
      · rw [Option.toList_some, chAt_cons, key_of, if_neg he]; rfl
/-- Between, where it goes well. -/
theorem betw_ok {l : List DElem} (h : chkR l = 0) (a b : Int) : ∃ cs, BetwSpec l a b cs ∧ change_Between F l a b = some (cs, 0) := by
  rcases change_Between_eq (F := F) l a b with h1 | h1
  · exact absurd h h1.1
  · exact h1.2
theorem betw_bad {l : List DElem} (h : chkR l ≠ 0) (a b : Int) : change_Between F l a b = some ([], chkR l) := by
  rcases change_Between_eq (F := F) l a b with h1 | h1
  · exact h1.2
  · exact absurd h1.1 h
theorem betw_is {l : List DElem} (h : chkR l = 0) {a b : Int} {cs : List DChange} (hs : BetwSpec l a b cs) : change_Between F l a b = some (cs, 0) := by
  obtain ⟨d, h1, h2⟩ := betw_ok (F := F) h a b
  rw [h2, hs.one h1]
/-- Then, where it goes well. -/
theorem then_is {a b r : List DChange} (ga : GoodC a) (gb : GoodC b) (hs : ThenSpec a b r) (hr : r.length ≤ 400) : change_Then F a b = some (r, 0) := by
  rcases change_Then_eq (F := F) a b with h1 | ⟨_, _, ⟨⟨k, hk⟩, _⟩ | ⟨q, h1, h2⟩⟩
  · exact absurd ⟨ga, gb⟩ h1.1
  · exact absurd (hs.meet k) hk
  · have := hs.one h1
    subst this
    rw [h2, if_neg (by omega)]
theorem then_ok {a b r : List DChange} (h : change_Then F a b = some (r, 0)) : GoodC a ∧ GoodC b ∧ ThenSpec a b r ∧ r.length ≤ 400 := by
  rcases change_Then_eq (F := F) a b with ⟨_, c, hc, h1⟩ | ⟨ga, gb, ⟨_, h1⟩ | ⟨q, h1, h2⟩⟩
  · rw [h] at h1
    have := (Prod.mk.inj (Option.some.inj h1)).2
    exact absurd this.symm hc
  · rw [h] at h1
    have := (Prod.mk.inj (Option.some.inj h1)).2
    cases this
  · rw [h] at h2
    by_cases hq : 400 < q.length
    · rw [if_pos hq] at h2
      have := (Prod.mk.inj (Option.some.inj h2)).2
      cases this
    · rw [if_neg hq] at h2
      have := (Prod.mk.inj (Option.some.inj h2)).1
      subst this
      exact ⟨ga, gb, h1, by omega⟩
theorem GoodC.at_ {l : List DChange} (h : GoodC l) (k : DKey) : chAt l k = none ∨ ∃ s t, s ≠ t ∧ chAt l k = some (chgOf k s t) := by
  cases hc : chAt l k with
  | none => exact .inl rfl
  | some c =>
    right
    obtain ⟨h1, h2⟩ := (chAt_some h.ord).1 hc
    have h3 := h.dif c h1
    rw [differs_iff (h.form c h1)] at h3
    refine ⟨fr c, to c, by simpa using h3, ?_⟩
    rw [← h2, ← of_form (h.form c h1)]
theorem comp_assoc {k : DKey} {A B C : Option DChange} (hA : A = none ∨ ∃ s t, s ≠ t ∧ A = some (chgOf k s t)) (hB : B = none ∨ ∃ s t, s ≠ t ∧ B = some (chgOf k s t)) (hC : C = none ∨ ∃ s t, s ≠ t ∧ C = some (chgOf k s t))
    (h1 : meets A B) (h2 : meets B C) : comp (comp A B) C = comp A (comp B C) := by
  rcases hA with rfl | ⟨s, t, hst, rfl⟩
  · cases hx : comp B C <;> cases B <;> simp_all [comp]
  · rcases hB with rfl | ⟨s', t', hst', rfl⟩
    · cases C <;> rfl
    · have e1 : t = s' := by simpa [meets] using h1
      subst e1
      rcases hC with rfl | ⟨s2, t2, hst2, rfl⟩
      · simp only [comp]
        cases hd : dif (chgOf k s t).key (fr (chgOf k s t)) (to (chgOf k t t')) <;> simp_all [comp]
      · have e2 : t' = s2 := by simpa [meets] using h2
        subst e2
        simp only [comp, key_of, fr_of, to_of]
        unfold dif
        by_cases c1 : s = t'
        · subst c1
          rw [if_pos rfl]
          by_cases c2 : t = t2
          · subst c2
            rw [if_pos rfl]
          · rw [if_neg c2]
            simp only [key_of, fr_of, to_of]
            rw [if_neg hst2]
        · rw [if_neg c1]
          simp only [key_of, fr_of, to_of]
          by_cases c2 : t = t2
          · subst c2
            rw [if_pos rfl]
            simp only
            rw [if_neg hst]
          · rw [if_neg c2]
            simp only [key_of, fr_of, to_of]
end Go.Proofs.Ytiaoncjkfgebdaa
