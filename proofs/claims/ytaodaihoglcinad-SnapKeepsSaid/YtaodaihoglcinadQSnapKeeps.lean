/- Plain Lean: the law SnapKeeps. Its conditions: none. -/
import Derived.Test.YtaodaihoglcinadWSnapKeepsF
import Derived.Test.YtaodaihoglcinadPSnap
import Derived.Test.YtaodaihoglcinadPPrune
import Derived.Test.YtaodaihoglcinadPRange
import Derived.Test.YtaodaihoglcinadPEq
namespace Go.Proofs.Ytaodaihoglcinad
set_option linter.unusedVariables false
set_option linter.unusedSimpArgs false
theorem mem_upto (d : Array Int) : ∀ m j, j < m → d[j]! ∈ Lib.compactUpTo d m
  | 0, j, h => by omega
  | m + 1, j, h => by
    rw [Lib.compactUpTo_succ]
    rcases Nat.lt_or_ge j m with hj | hj
    · exact List.mem_append_left _ (mem_upto d m j hj)
    · obtain rfl : j = m := by omega
      cases hk : Lib.keeps d j with
      | true => exact List.mem_append_right _ (by simp)
      | false =>
        have h2 : j ≠ 0 ∧ d[j]! = d[j - 1]! := by unfold Lib.keeps at hk; simpa using hk
        rw [h2.2]; exact List.mem_append_left _ (mem_upto d j (j - 1) (by omega))
theorem mem_compact {zs : List Int} {x : Int} (h : x ∈ zs) : x ∈ Lib.compact zs := by
  obtain ⟨j, hj, rfl⟩ := List.getElem_of_mem h
  have := mem_upto zs.toArray zs.length j hj
  have e : zs.toArray[j]! = zs[j] := by simp [hj]
  rw [e] at this
  exact this
theorem mem_isort {zs : List Int} {x : Int} : x ∈ isort zs ↔ x ∈ zs := by unfold isort; exact List.mem_mergeSort
section
variable {F : Nat} [Big F]
theorem snap_Times_good {s : List DSnap} (h : Snaps s) : snap_Times F s = some (Lib.compact (isort (s.map (·.tid))), 0) := by
  have hl := h.len
  unfold snap_Times
  rw [snap_Check_eq, Option.bind_some, bne0_false (chkSn_zero.2 h), cond_false]
  rw [loop_run (s := ([], 0)) (fun k => ((s.take k).map (·.tid), (k : Int))) s.length (r := s.map (·.tid)) rfl (by omega) (fun k hk => ?_) ?_]
  · rw [Option.bind_some, sortO, if_pos (by rw [List.length_map]; omega)]; rfl
  · dsimp only
    rw [decide_eq_false (by omega), cond_false, List.take_length]
  · dsimp only
    rw [decide_eq_true (by omega), cond_true, idx_nat', List.getElem?_eq_getElem hk, Option.bind_some, grow_ok (by simp; omega) (by simp; omega), Option.bind_some, w64 (by omega) (by omega), List.take_add_one, List.getElem?_eq_getElem hk, List.map_append]; rfl
theorem snap_Times_bad {s : List DSnap} (h : chkSn s ≠ 0) : snap_Times F s = some ([], chkSn s) := by
  unfold snap_Times
  rw [snap_Check_eq, Option.bind_some, bne0_true h, cond_true]
theorem kept_live {l : List DElem} {ts : List Int} (h : keptE l ts = 0) {t : Int} (ht : t ∈ ts) {e : DElem} (he : e ∈ l) (hv : live e t = true) : staysR e ts = true := by
  unfold staysR
  rw [Bool.or_eq_true, List.any_eq_true]
  exact .inr ⟨t, ht, hv⟩
theorem kept_range {l : List DElem} {ts : List Int} (h : keptE l ts = 0) {t : Int} (ht : t ∈ ts) (a b : DKey) : rangeR (keptR l ts) a b t = rangeR l a b t ∧ rangeE (keptR l ts) a b = rangeE l a b := by
  have hr := (keptE_zero.1 h).1
  have hm := keptR_run h
  have hE : rangeE (keptR l ts) a b = rangeE l a b := by unfold rangeE; rw [chkR_zero.2 hr, chkR_zero.2 hm]
  refine ⟨?_, hE⟩
  unfold rangeR
  rw [hE]
  split
  · unfold keptR
    rw [if_pos h, List.filter_filter]
    apply List.filter_congr
    intro e he
    cases hi : inR a b t e
    · rfl
    · rw [kept_live h ht he (by unfold inR at hi; simp at hi; simp [hi])]; rfl
  · rfl
theorem range_len (l : List DElem) (a b : DKey) (t : Int) (h : Run l) : (rangeR l a b t).length ≤ 400 := by
  unfold rangeR
  split
  · exact Nat.le_trans (List.length_filter_le _ _) h.len
  · simp
end
theorem isort_55 : isort [5, 5] = [5, 5] := by
  have h := List.mergeSort_perm [(5 : Int), 5] (fun x y => decide (x ≤ y))
  have h2 : (isort [5, 5]) = List.replicate 2 5 := by
    rw [List.eq_replicate_iff]
    exact ⟨by rw [isort_length]; rfl, fun b hb => by rw [mem_isort] at hb; simpa using hb⟩
  exact h2
theorem annalkeep_SnapKeeps_true (F : Nat) [Big F] (l : List DElem) (s : List DSnap) (n : ByteArray) (a b : DKey) (_ : okAllW 56 okElem l) (_ : okAllW 24 okSnap s) (_ : okStr n) (_ : n.size ≤ reachBytes) (_ : okKey a) (_ : okKey b) : annalkeep_SnapKeeps F l s n a b = some true := by
  unfold annalkeep_SnapKeeps
  have h0 : Snaps [⟨ByteArray.mk #[97], 5⟩, ⟨ByteArray.mk #[98], 5⟩] := by
    refine ⟨by decide, fun e he => ?_, ?_⟩
    · simp only [List.mem_cons, List.not_mem_nil, or_false] at he
      rcases he with rfl | rfl
      · exact ⟨(nameB_ofL [97]).trans (by decide), by decide⟩
      · exact ⟨(nameB_ofL [98]).trans (by decide), by decide⟩
    · refine List.Pairwise.cons (fun e he => ?_) (List.pairwise_singleton _ _)
      simp only [List.mem_cons, List.not_mem_nil, or_false] at he
      subst he
      show slt (ByteArray.mk #[97]) (ByteArray.mk #[98]) = true
      unfold slt
      rw [ByteArray.toList_eq, ByteArray.toList_eq]
      decide
  have hc : Lib.compact (isort ([(⟨ByteArray.mk #[97], 5⟩ : DSnap), ⟨ByteArray.mk #[98], 5⟩].map (·.tid))) = [5] := by
    show Lib.compact (isort [5, 5]) = [5]
    rw [isort_55]; rfl
  rw [snap_Times_good h0, Option.bind_some, hc]
  dsimp only
  rw [bne0_false rfl, cond_false, eqInt _ _ (by decide), Option.bind_some, decide_eq_true rfl, Bool.not_true, Option.bind_some, cond_false]
  by_cases h : chkSn s = 0
  · have hs := chkSn_zero.1 h
    rw [snap_Times_good hs, Option.bind_some]
    dsimp only
    rw [prune_Kept_eq, Option.bind_some]
    dsimp only
    by_cases hn : hasN s n = true
    · obtain ⟨e, he, hen⟩ := hasN_iff.1 hn
      rw [snap_Find_has hs he hen, Option.bind_some]
      dsimp only
      by_cases hk : keptE l (Lib.compact (isort (s.map (·.tid)))) = 0
      · rw [hk]
        have ht : e.tid ∈ Lib.compact (isort (s.map (·.tid))) := mem_compact (mem_isort.2 (List.mem_map.2 ⟨e, he, rfl⟩))
        obtain ⟨k1, k2⟩ := kept_range hk ht a b
        have hr := (keptE_zero.1 hk).1
        rw [show (((0 : Int) != 0) || (((0 : Int) != 0) || ((0 : Int) != 0))) = false by decide, cond_false, run_Range_eq, Option.bind_some, run_Range_eq, Option.bind_some]
        dsimp only
        rw [k1, k2, beq_self_eq_true, cond_true, eqElem _ _ (by have := range_len l a b e.tid hr; omega), Option.bind_some, Option.bind_some, decide_eq_true rfl]
      · rw [bne0_true hk, show (((0 : Int) != 0) || (true || ((0 : Int) != 0))) = true by decide, cond_true]
    · rw [snap_Find_no hs (by simpa using hn), Option.bind_some]
      dsimp only
      rw [show ((4 : Int) != 0) = true by decide, Bool.or_true, Bool.or_true, cond_true]
  · rw [snap_Times_bad h, Option.bind_some]
    dsimp only
    rw [prune_Kept_eq, Option.bind_some, snap_Find_bad h, Option.bind_some]
    dsimp only
    rw [bne0_true h, Bool.true_or, cond_true]
end Go.Proofs.Ytaodaihoglcinad
