/- Plain Lean: the law RunOwn. Its conditions: none. -/
import Derived.Test.YtaodaihoglcinaaWRunOwnF
import Derived.Test.YtaodaihoglcinaaPPrune
import Derived.Test.YtaodaihoglcinaaPRange
import Derived.Test.YtaodaihoglcinaaPEq
import Derived.Test.YtaodaihoglcinaaLaw
namespace Go.Proofs.Ytaodaihoglcinaa
set_option linter.unusedVariables false
set_option linter.unusedSimpArgs false
theorem ok_len {l : List DElem} (h : okAllW 56 okElem l) : l.length * 56 ≤ reachBytes := by
  exact h.1
theorem putE_len {F : Nat} [Big F] (l : List DElem) (k : DKey) (v : ByteArray) (t : Int) : ∃ r, run_Put F l k v t = some r ∧ r.1.length ≤ 400 := by
  refine ⟨_, run_Put_eq l k v t, ?_⟩
  dsimp only
  split
  · rename_i h; exact (putE_zero.1 h).2.2.2
  · simp
theorem cutE_len {F : Nat} [Big F] (l : List DElem) (k : DKey) (t : Int) : ∃ r, run_Cut F l k t = some r ∧ r.1.length ≤ 400 := by
  refine ⟨_, run_Cut_eq l k t, ?_⟩
  dsimp only
  split
  · rename_i h
    obtain ⟨hr, _, h0, h1, ht, _⟩ := cutE_zero.1 h
    exact (hr.cutR ht h0 h1 k).len
  · simp
theorem rangeR_len {F : Nat} [Big F] (l : List DElem) (a b : DKey) (t : Int) : ∃ r, run_Range F l a b t = some r ∧ r.1.length ≤ 400 := by
  refine ⟨_, run_Range_eq l a b t, ?_⟩
  dsimp only
  unfold rangeR
  split
  · rename_i h
    have hr : Run l := by
      unfold rangeE at h
      by_cases hc : chkR l = 0
      · exact chkR_zero.1 hc
      · rw [if_pos hc] at h; exact absurd h hc
    exact Nat.le_trans (List.length_filter_le _ _) hr.len
  · simp
theorem keptR_len {F : Nat} [Big F] (l : List DElem) (ts : List Int) : ∃ r, prune_Kept F l ts = some r ∧ r.1.length ≤ 400 := by
  refine ⟨_, prune_Kept_eq l ts, ?_⟩
  dsimp only
  by_cases h : keptE l ts = 0
  · exact (keptR_run h).len
  · unfold keptR; rw [if_neg h]; simp
theorem grow_le {l : List DElem} (h : l.length ≤ 400) : grow 56 ([] : List DElem) l = some l := by
  rw [grow_ok (by simp; omega) (by simp; omega)]; rfl
theorem annalkeep_RunOwn_true (F : Nat) [Big F] (l : List DElem) (k : DKey) (v : ByteArray) (t : Int) (ts : List Int) (hl : okAllW 56 okElem l) (_ : okKey k) (_ : okStr v) (_ : v.size ≤ reachBytes) (_ : okInt .i64 t) (_ : okAllW 8 (okInt .i64) ts) : annalkeep_RunOwn F l k v t ts = some true := by
  have h56 := ok_len hl
  unfold reachBytes at h56
  unfold annalkeep_RunOwn
  obtain ⟨r3, e3, l3⟩ := putE_len (F := F) l k v t
  obtain ⟨r5, e5, l5⟩ := cutE_len (F := F) l k t
  obtain ⟨r7, e7, l7⟩ := rangeR_len (F := F) l ⟨0, 0, 0⟩ ⟨15, 9, 9⟩ t
  obtain ⟨r9, e9, l9⟩ := keptR_len (F := F) l ts
  have em : annalkeep_mark = some (DElem.mk (DKey.mk 0 0 0) 77 0 (ByteArray.mk #[109, 97, 114, 107])) := rfl
  have emk : makes 56 ((l.length : Int) + 3) = some () := by
    unfold makes
    rw [if_pos ⟨by omega, by omega, by unfold maxLen; omega⟩]
  rw [em, Option.bind_some, emk, Option.bind_some, e3, Option.bind_some, e5, Option.bind_some, e7, Option.bind_some, e9, Option.bind_some, eqElem _ _ (by omega), Option.bind_some, decide_eq_true rfl, Bool.not_true, cond_false, Option.bind_some, cond_false]
  rw [grow_le l3, Option.bind_some, grow_le l5, Option.bind_some, grow_le l7, Option.bind_some, grow_le l9, Option.bind_some]
  rw [eqElem _ _ (by omega), Option.bind_some, decide_eq_true rfl, Bool.not_true, cond_false]
  rw [eqElem _ _ (by omega), Option.bind_some, decide_eq_true rfl, Bool.not_true, cond_false]
  rw [eqElem _ _ (by omega), Option.bind_some, decide_eq_true rfl, Bool.not_true, cond_false]
  rw [eqElem _ _ (by omega), Option.bind_some, decide_eq_true rfl, Bool.not_true, cond_false]
  rw [run_Put_eq, Option.bind_some]
  rfl
end Go.Proofs.Ytaodaihoglcinaa
