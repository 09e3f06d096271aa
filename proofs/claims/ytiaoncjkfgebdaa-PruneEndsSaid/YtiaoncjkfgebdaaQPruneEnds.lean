/- Plain Lean: the law PruneEnds. Its conditions: none. -/
import Derived.Test.YtiaoncjkfgebdaaWPruneEndsF
import Derived.Test.YtiaoncjkfgebdaaPPrune
import Derived.Test.YtiaoncjkfgebdaaPRunL
namespace Go.Proofs.Ytiaoncjkfgebdaa
set_option linter.unusedVariables false
set_option linter.unusedSimpArgs false
theorem annalkeep_PruneEnds_true (F : Nat) [Big F] (l : List DElem) (_ : okAllW 56 okElem l) : annalkeep_PruneEnds F l = some true := by
  unfold annalkeep_PruneEnds
  have s1 : prune_Kept F [⟨⟨0, 0, 0⟩, 1, 2, ByteArray.mk #[]⟩] [] = some ([], 0) := by rw [prune_Kept_eq]; rfl
  have s2 : prune_Kept F [⟨⟨0, 0, 0⟩, 1, 2, ByteArray.mk #[]⟩] [1] = some ([⟨⟨0, 0, 0⟩, 1, 2, ByteArray.mk #[]⟩], 0) := by rw [prune_Kept_eq]; rfl
  have s3 : ((List.length [(⟨⟨0, 0, 0⟩, 1, 2, ByteArray.mk #[]⟩ : DElem)] : Int) != 1) = false := rfl
  have s4 : ((List.length ([] : List DElem) : Int) != 0) = false := rfl
  simp only [Option.bind_some, s1, s2, s3, s4, bne_self_eq_false, Bool.or_false, cond_false]
  simp only [prune_Kept_eq, run_Check_eq, Option.bind_some]
  have hE : keptE l [] = chkR l := by unfold keptE; split <;> simp_all [timesE]
  by_cases h : chkR l = 0
  · have hr := chkR_zero.1 h
    have hlen := hr.len
    have hk : keptR l [] = l.filter fun e => e.gone == 0 := by
      unfold keptR; rw [hE, if_pos h]; unfold staysR; simp
    have hm := List.length_filter_le (fun e : DElem => e.gone == 0) l
    rw [hE, bne0_false h, cond_false, hk]
    rw [loop_first l (fun _ => (none : Option (Unit ⊕ Bool))) (Sum.inl ()) (by omega) rfl (fun k e hk => ?_) (by simp)]
    · have hnone : l.findSome? (fun _ => (none : Option (Unit ⊕ Bool))) = none := by simp
      rw [hnone, Option.getD_none, Option.bind_some]
      dsimp only
      obtain ⟨st, hst⟩ : ∃ st : List Int → DElem → List Int, ∀ a e, st a e = if e.made ∈ a then a else a ++ [e.made] := ⟨_, fun _ _ => rfl⟩
      have spec : ∀ (m : List DElem) (a : List Int), (∀ t, t ∈ m.foldl st a ↔ t ∈ a ∨ ∃ e ∈ m, e.made = t) ∧ (m.foldl st a).length ≤ a.length + m.length := by
        intro m
        induction m with
        | nil => intro a; simp
        | cons x m ih =>
          intro a
          rw [List.foldl_cons]
          obtain ⟨h1, h2⟩ := ih (st a x)
          rw [hst] at h1 h2 ⊢
          refine ⟨fun t => ?_, ?_⟩
          · rw [h1]
            split
            · rename_i hx
              constructor
              · rintro (h3 | ⟨e, h3, h4⟩)
                · exact .inl h3
                · exact .inr ⟨e, List.mem_cons_of_mem _ h3, h4⟩
              · rintro (h3 | ⟨e, h3, h4⟩)
                · exact .inl h3
                · rcases List.mem_cons.1 h3 with h3 | h3
                  · subst h3; subst h4; exact .inl hx
                  · exact .inr ⟨e, h3, h4⟩
            · constructor
              · rintro (h3 | ⟨e, h3, h4⟩)
                · rcases List.mem_append.1 h3 with h3 | h3
                  · exact .inl h3
                  · simp at h3; exact .inr ⟨x, by simp, h3.symm⟩
                · exact .inr ⟨e, List.mem_cons_of_mem _ h3, h4⟩
              · rintro (h3 | ⟨e, h3, h4⟩)
                · exact .inl (List.mem_append.2 (.inl h3))
                · rcases List.mem_cons.1 h3 with h3 | h3
                  · subst h3; exact .inl (List.mem_append.2 (.inr (by simp [h4])))
                  · exact .inr ⟨e, h3, h4⟩
          · rw [List.length_cons]
            by_cases hx : x.made ∈ a
            · rw [if_pos hx] at h2 ⊢; omega
            · rw [if_neg hx] at h2 ⊢; rw [List.length_append, List.length_singleton] at h2; omega
      rw [loop_fold l st [] (r := l.foldl st []) (by omega) rfl (fun k e hk => ?_) (by simp), Option.bind_some]
      · obtain ⟨h1, h2⟩ := spec l []
        generalize l.foldl st [] = ts at h1 h2
        by_cases h20 : 20 < ts.length
        · rw [decide_eq_true (by omega), cond_true]
        · rw [decide_eq_false (by omega), cond_false]
          have ht : timesE ts = 0 := timesE_zero.2 ⟨by omega, fun t ht => by
            rcases (h1 t).1 ht with h3 | ⟨e, he, rfl⟩
            · cases h3
            · have := hr.made he; omega⟩
          have hz : keptE l ts = 0 := keptE_zero.2 ⟨hr, ht⟩
          have hall : keptR l ts = l := by
            unfold keptR
            rw [if_pos hz, List.filter_eq_self]
            intro e he
            unfold staysR
            rw [Bool.or_eq_true, List.any_eq_true]
            right
            refine ⟨e.made, (h1 _).2 (.inr ⟨e, he, rfl⟩), ?_⟩
            obtain ⟨_, _, _, h4, _⟩ := chkE_ok (hr.ok e he)
            rw [live_iff]; omega
          rw [hz, hall, eqElem_self _ (by omega)]; rfl
      · have hkl := (List.getElem?_eq_some_iff.1 hk).1
        have h2 := (spec (l.take k) []).2
        rw [List.length_take, List.length_nil] at h2
        generalize (l.take k).foldl st [] = acc at h2
        dsimp only
        rw [decide_eq_true (by omega), cond_true, idx_nat', hk, Option.bind_some, containsInt _ _ (by omega), Option.bind_some, w64 (n := (k : Int) + 1) (by omega) (by omega), hst]
        by_cases hx : e.made ∈ acc
        · rw [decide_eq_true hx, if_pos hx]; rfl
        · rw [decide_eq_false hx, if_neg hx, Bool.not_false, cond_true, grow_ok (by simp; omega) (by simp; omega)]; rfl
    · have hkl := (List.getElem?_eq_some_iff.1 hk).1
      rw [decide_eq_true (by omega), cond_true, idx_nat', hk, Option.bind_some, containsElem _ _ (by omega), Option.bind_some, w64 (n := (k : Int) + 1) (by omega) (by omega)]
      have he := List.mem_of_getElem? hk
      have : decide (e ∈ l.filter fun e => e.gone == 0) = (e.gone == 0) := by
        rw [Bool.eq_iff_iff, decide_eq_true_eq, List.mem_filter]; simp [he]
      rw [this]
      simp
  · have hk : keptR l [] = [] := by unfold keptR; rw [hE, if_neg h]
    rw [hE, bne0_true h, cond_true, hk]
    simp
end Go.Proofs.Ytiaoncjkfgebdaa
