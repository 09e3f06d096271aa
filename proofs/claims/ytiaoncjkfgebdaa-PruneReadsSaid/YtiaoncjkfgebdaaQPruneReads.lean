/- Plain Lean: the law PruneReads. Its conditions: none. -/
import Derived.Test.YtiaoncjkfgebdaaWPruneReadsF
import Derived.Test.YtiaoncjkfgebdaaPPrune
import Derived.Test.YtiaoncjkfgebdaaPRunL
namespace Go.Proofs.Ytiaoncjkfgebdaa
set_option linter.unusedVariables false
set_option linter.unusedSimpArgs false
section
variable {l : List DElem} {ts : List Int}
theorem kept_live {l : List DElem} {ts : List Int} (h : keptE l ts = 0) {t : Int} (ht : t ∈ ts ++ [2147483647]) {e : DElem} (he : e ∈ l) (hv : live e t = true) : staysR e ts = true := by
  unfold staysR
  rw [Bool.or_eq_true, List.any_eq_true]
  rcases List.mem_append.1 ht with ht | ht
  · exact .inr ⟨t, ht, hv⟩
  · left
    rw [List.mem_singleton] at ht
    subst ht
    have h1 := chkE_ok ((keptE_zero.1 h).1.ok e he)
    rw [live_iff] at hv
    rw [beq_iff_eq]
    rcases hv.2 with h2 | h2
    · exact h2
    · have := h1.2.2.2.1; omega
theorem kept_at {l : List DElem} {ts : List Int} (h : keptE l ts = 0) {t : Int} (ht : t ∈ ts ++ [2147483647]) (k : DKey) : atR (keptR l ts) k t = atR l k t := by
  unfold keptR atR
  rw [if_pos h, List.find?_filter]
  have : ∀ m : List DElem, (∀ e ∈ m, e ∈ l) → m.find? (fun e => decide (staysR e ts = true ∧ (e.key == k && live e t) = true)) = m.find? (fun e => e.key == k && live e t) := by
    intro m
    induction m with
    | nil => intro _; rfl
    | cons e m ih =>
      intro hm
      rw [List.find?_cons, List.find?_cons, ih fun x hx => hm x (List.mem_cons_of_mem _ hx)]
      have hx : decide (staysR e ts = true ∧ (e.key == k && live e t) = true) = (e.key == k && live e t) := by
        rw [Bool.eq_iff_iff, decide_eq_true_eq]
        refine ⟨fun h => h.2, fun hv => ⟨kept_live h ht (hm e List.mem_cons_self) ?_, hv⟩⟩
        rw [Bool.and_eq_true] at hv; exact hv.2
      rw [hx]
  exact this l fun e he => he
theorem kept_range {l : List DElem} {ts : List Int} (h : keptE l ts = 0) {t : Int} (ht : t ∈ ts ++ [2147483647]) (a b : DKey) : rangeR (keptR l ts) a b t = rangeR l a b t ∧ rangeE (keptR l ts) a b = rangeE l a b := by
  have hr := (keptE_zero.1 h).1
  have hm := keptR_run h
  have hE : rangeE (keptR l ts) a b = rangeE l a b := by unfold rangeE; rw [chkR_run hr, chkR_run hm]
  refine ⟨?_, hE⟩
  unfold rangeR
  rw [hE]
  split
  · unfold keptR
    rw [if_pos h, List.filter_filter]
    apply List.filter_congr
    intro e he
    cases hi : inR a b t e
    · rfl
    · rw [kept_live h ht he (by unfold inR at hi; simp at hi; simp [hi])]; rfl
  · rfl
theorem kept_twice {l : List DElem} {ts : List Int} (h : keptE l ts = 0) : keptE (keptR l ts) ts = 0 ∧ keptR (keptR l ts) ts = keptR l ts := by
  have hE : keptE (keptR l ts) ts = 0 := keptE_zero.2 ⟨keptR_run h, (keptE_zero.1 h).2⟩
  refine ⟨hE, ?_⟩
  have h1 : keptR l ts = l.filter fun e => staysR e ts := by unfold keptR; rw [if_pos h]
  have h2 : keptR (keptR l ts) ts = (keptR l ts).filter fun e => staysR e ts := by
    conv => lhs; rw [keptR]
    rw [if_pos hE]
  rw [h2, h1, List.filter_filter]
  apply List.filter_congr
  intro e _
  rw [Bool.and_self]
end
theorem annalkeep_PruneReads_true (F : Nat) [Big F] (l : List DElem) (ts : List Int) (n : Int) (k a b : DKey) (_ : okAllW 56 okElem l) (_ : okAllW 8 (okInt .i64) ts) (hn : okInt .i64 n) (_ : okKey k) (_ : okKey a) (_ : okKey b) : annalkeep_PruneReads F l ts n k a b = some true := by
  unfold annalkeep_PruneReads
  have s1 : prune_Kept F [⟨⟨0, 0, 1⟩, 1, 3, ByteArray.mk #[]⟩] [2] = some ([⟨⟨0, 0, 1⟩, 1, 3, ByteArray.mk #[]⟩], 0) := by rw [prune_Kept_eq]; rfl
  have s2 : prune_Kept F [⟨⟨0, 0, 1⟩, 1, 3, ByteArray.mk #[]⟩] [3] = some ([], 0) := by rw [prune_Kept_eq]; rfl
  have s3 : ((List.length [(⟨⟨0, 0, 1⟩, 1, 3, ByteArray.mk #[]⟩ : DElem)] : Int) != 1) = false := rfl
  have s4 : ((List.length ([] : List DElem) : Int) != 0) = false := rfl
  simp only [Option.bind_some, s1, s2, s3, s4, bne_self_eq_false, Bool.or_false, cond_false]
  simp only [prune_Kept_eq, run_At_eq, run_Range_eq, Option.bind_some]
  by_cases h : keptE l ts = 0
  · obtain ⟨hr, h2⟩ := keptE_zero.1 h
    have hm := keptR_run h
    have hml := hm.len
    have htl := (timesE_zero.1 h2).1
    rw [bne0_false h, cond_false, grow_ok (by simp; omega) (by simp; omega), Option.bind_some, Option.bind_some, List.nil_append, grow_ok (by simp; omega) (by simp; omega), Option.bind_some]
    rw [loop_first (ts ++ [2147483647]) (fun _ => (none : Option (Unit ⊕ Bool))) (Sum.inl ()) (by simp; omega) rfl (fun j t hj => ?_) (by simp)]
    · have hnone : (ts ++ [2147483647]).findSome? (fun _ => (none : Option (Unit ⊕ Bool))) = none := by simp
      rw [hnone, Option.getD_none, Option.bind_some]
      dsimp only
      obtain ⟨h3, h4⟩ := kept_twice h
      rw [h3, h4, eqElem_self _ (by omega)]
      simp only [bne_self_eq_false, cond_false, Option.bind_some, Bool.not_true]
      by_cases h20 : 20 ≤ ts.length
      · rw [decide_eq_true (by omega), cond_true]
      · rw [decide_eq_false (by omega), cond_false]
        obtain ⟨r, r1, r2⟩ := within_eq (n := n) (m := 100) (by omega) (by omega) hn
        rw [r1, Option.bind_some, grow_ok (by simp; omega) (by simp; omega), Option.bind_some]
        have h5 : keptE l (ts ++ [(r : Int)]) = 0 := keptE_zero.2 ⟨hr, timesE_zero.2 ⟨by simp; omega, fun t ht => by
          rcases List.mem_append.1 ht with ht | ht
          · exact (timesE_zero.1 h2).2 t ht
          · rw [List.mem_singleton] at ht; omega⟩⟩
        have hol := (keptR_run h5).len
        rw [h5]
        rw [loop_first (keptR l ts) (fun _ => (none : Option (Unit ⊕ Int))) (Sum.inl ()) (by omega) rfl (fun j e hj => ?_) (by simp)]
        · have hnone : (keptR l ts).findSome? (fun _ => (none : Option (Unit ⊕ Int))) = none := by simp
          rw [hnone, Option.getD_none]; rfl
        · have hjl := (List.getElem?_eq_some_iff.1 hj).1
          have he := List.mem_of_getElem? hj
          rw [decide_eq_true (by omega), cond_true, idx_nat', hj, Option.bind_some, containsElem _ _ (by omega), w64 (n := (j : Int) + 1) (by omega) (by omega)]
          have hin : e ∈ keptR l (ts ++ [(r : Int)]) := by
            unfold keptR at he ⊢
            rw [if_pos h, List.mem_filter] at he
            rw [if_pos h5, List.mem_filter]
            refine ⟨he.1, ?_⟩
            have h6 := he.2
            unfold staysR at h6 ⊢
            rw [List.any_append, ← Bool.or_assoc, h6]; rfl
          rw [decide_eq_true hin]; rfl
    · have hjl := (List.getElem?_eq_some_iff.1 hj).1
      have ht := List.mem_of_getElem? hj
      have hjl' : j < ts.length + 1 := by simpa using hjl
      rw [decide_eq_true (by omega), cond_true, idx_nat', hj, Option.bind_some, w64 (n := (j : Int) + 1) (by omega) (by omega)]
      have hat := kept_at h ht k
      have hv : atV (keptR l ts) k t = atV l k t := by unfold atV; rw [chkR_run hr, chkR_run hm, hat]
      have he : atE (keptR l ts) k t = atE l k t := by unfold atE; rw [chkR_run hr, chkR_run hm, hat]
      obtain ⟨g1, g2⟩ := kept_range h ht a b
      have hrl : (rangeR l a b t).length ≤ 400 := by
        rw [← g1]; unfold rangeR
        split
        · have := List.length_filter_le (inR a b t) (keptR l ts); omega
        · simp
      rw [hv, he, g1, g2, eqElem_self _ (by omega)]
      simp
  · rw [bne0_true h, cond_true]
    unfold keptR
    rw [if_neg h]; rfl
end Go.Proofs.Ytiaoncjkfgebdaa
