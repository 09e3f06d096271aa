/- Plain Lean: the law RunFull. Its conditions: none. -/
import Derived.Test.YtiaoncjkfgebdaaWRunFullF
import Derived.Test.YtiaoncjkfgebdaaPRunL
namespace Go.Proofs.Ytiaoncjkfgebdaa
set_option linter.unusedVariables false
set_option linter.unusedSimpArgs false
/-- A record of a full run. -/
def fullAt (i : Nat) : DElem := ⟨⟨0, 0, (i : Int)⟩, 1, 0, ByteArray.mk #[]⟩
def fullTo (n : Nat) : List DElem := (List.range n).map fullAt
theorem full_eq (F : Nat) [Big F] : annalkeep_full F = some (fullTo 400) := by
  unfold annalkeep_full
  rw [loop_run (fun k => (fullTo k, (k : Int))) 400 (r := fullTo 400) (show (([] : List DElem), (0 : Int)) = _ from rfl) (by decide) (fun k hk => ?_) (by simp), Option.bind_some]
  dsimp only
  have hl : (fullTo k).length = k := by simp [fullTo]
  rw [decide_eq_true (by omega), cond_true, at1_eq, Option.bind_some, grow_ok (by rw [hl]; simp; omega) (by rw [hl]; simp; omega), Option.bind_some, w64 (by omega) (by omega)]
  unfold fullTo
  rw [List.range_succ, List.map_append]; rfl
theorem full_bef {i j : Nat} (h : i < j) : cmpK (fullAt i).key (fullAt j).key < 0 := by
  rw [cmpK_def]
  simp [fullAt, ord]; omega
theorem full_run : Run (fullTo 400) := by
  refine ⟨by simp [fullTo], fun e he => ?_, ?_⟩
  · obtain ⟨i, hi, rfl⟩ := List.mem_map.1 he
    rw [List.mem_range] at hi
    unfold chkE chkK fullAt
    dsimp only
    rw [if_neg (by rw [if_neg (by omega)]; simp), if_neg (by omega), if_neg (by decide)]
  · unfold fullTo
    rw [List.pairwise_map]
    refine List.pairwise_lt_range.imp fun hab => ?_
    exact bef_iff.2 (.inl (full_bef hab))
theorem full_last : lastL (fullTo 400) = 1 := by
  have h1 : lastL (fullTo 400) ≤ 1 := by
    rw [lastL_le]
    refine ⟨by decide, fun e he => ?_⟩
    obtain ⟨i, hi, rfl⟩ := List.mem_map.1 he
    have : lastE (fullAt i) = 1 := by unfold lastE fullAt; rfl
    omega
  have h2 : lastE (fullAt 0) ≤ lastL (fullTo 400) := le_lastL (List.mem_map.2 ⟨0, by simp, rfl⟩)
  have h3 : lastE (fullAt 0) = 1 := by decide
  omega
theorem full_now {i : Nat} (h : i < 400) : nowR (fullTo 400) ⟨0, 0, (i : Int)⟩ = some (fullAt i) :=
  (nowR_some full_run.ord).2 ⟨List.mem_map.2 ⟨i, List.mem_range.2 h, rfl⟩, rfl, rfl⟩
theorem full_none : nowR (fullTo 400) ⟨0, 0, 1000⟩ = none := by
  rw [nowR_none]
  intro e he hk
  obtain ⟨i, hi, rfl⟩ := List.mem_map.1 he
  rw [List.mem_range] at hi
  have := congrArg DKey.off hk
  simp [fullAt] at this
  omega
theorem full_lo {i : Nat} (h : i < 400) : (lo (fullTo 400) ⟨0, 0, (i : Int)⟩).length = i := by
  unfold lo fullTo
  rw [List.filter_map, List.length_map]
  have e1 : ((fun e : DElem => decide (cmpK e.key ⟨0, 0, (i : Int)⟩ < 0)) ∘ fullAt) = fun j : Nat => decide (j < i) := by
    funext j
    simp only [Function.comp]
    rw [Bool.eq_iff_iff, decide_eq_true_eq, decide_eq_true_eq]
    constructor
    · intro hc
      rcases Nat.lt_or_ge j i with h1 | h1
      · exact h1
      · exfalso
        rcases Nat.lt_or_eq_of_le h1 with h2 | h2
        · have h3 := full_bef h2
          have h4 := cmp_cmpK.lt_trans h3 (show cmpK (fullAt j).key (fullAt i).key < 0 from hc)
          rw [cmp_cmpK.refl] at h4; omega
        · subst h2
          have : cmpK (fullAt i).key (fullAt i).key < 0 := hc
          rw [cmp_cmpK.refl] at this; omega
    · intro h1; exact full_bef h1
  rw [e1]
  have : ∀ n, i ≤ n → ((List.range n).filter fun j => decide (j < i)).length = i := by
    intro n hn
    induction n with
    | zero => obtain rfl : i = 0 := by omega
              rfl
    | succ n ih =>
      rw [List.range_succ, List.filter_append]
      rcases Nat.lt_or_ge n i with h1 | h1
      · obtain rfl : i = n + 1 := by omega
        have e2 : (List.range n).filter (fun j => decide (j < n + 1)) = List.range n := by
          rw [List.filter_eq_self]; intro j hj; rw [List.mem_range] at hj; simp; omega
        rw [e2]; simp
      · have := ih h1
        rw [List.length_append, this]
        have e3 : ([n].filter fun j => decide (j < i)) = [] := by simp; omega
        rw [e3]; simp
  exact this 400 (by omega)
theorem annalkeep_RunFull_true (F : Nat) [Big F] (i : Int) (v : ByteArray) (t : Int) (hi : okInt .i64 i) (_ : okStr v) (_ : v.size ≤ reachBytes) (ht : okInt .i64 t) : annalkeep_RunFull F i v t = some true := by
  unfold annalkeep_RunFull
  obtain ⟨n, hn, hn4⟩ := within_eq (n := i) (m := 400) (by decide) (by decide) hi
  obtain ⟨u, hu, hu9⟩ := within_eq (n := t) (m := 9) (by decide) (by decide) ht
  rw [hn, hu]
  simp only [Option.bind_some, full_eq, run_Put_eq, run_Cut_eq]
  rw [w64 (by omega) (by omega)]
  have hr := full_run
  have hlen : (fullTo 400).length = 400 := by simp [fullTo]
  have hl := full_last
  have hnow := full_now (show n < 400 by omega)
  have ck : chkK ⟨0, 0, (n : Int)⟩ = 0 := by unfold chkK; rw [if_neg]; dsimp only; omega
  have ck2 : chkK ⟨0, 0, 1000⟩ = 0 := by decide
  have p1 : putE (fullTo 400) ⟨0, 0, 1000⟩ (ByteArray.mk #[]) (1 + (u : Int)) = 8 := by
    have hc := chkE_new (v := ByteArray.mk #[]) (t := 1 + (u : Int)) ck2 (by omega) (by omega) (by decide)
    have hd : (putR (fullTo 400) ⟨0, 0, 1000⟩ (ByteArray.mk #[]) (1 + (u : Int))).length = 401 := by
      have e : dput (fullTo 400) ⟨0, 0, 1000⟩ (1 + (u : Int)) = 1 := by unfold dput; rw [full_none]
      rw [put_len hr, hlen, e]
    unfold putE
    rw [if_neg (by simpa using chkR_run hr), if_neg (by simpa using hc), if_neg (by omega), if_pos (by omega)]
  have c1 : cutE (fullTo 400) ⟨0, 0, (n : Int)⟩ (1 + (u : Int)) = 0 := cutE_zero.2 ⟨hr, ck, by omega, by omega, by omega, by rw [hnow]; rfl⟩
  rw [p1, c1, if_pos rfl]
  simp only [bne_self_eq_false, Bool.or_false, cond_false]
  by_cases hv : 40 < v.size
  · have p2 : putE (fullTo 400) ⟨0, 0, (n : Int)⟩ v 1 = 2 := by
      have hc : chkE (newE ⟨0, 0, (n : Int)⟩ v 1) = 2 := by
        unfold chkE newE
        dsimp only
        rw [if_neg (by simpa using ck), if_neg (by omega), if_pos hv]
      unfold putE
      rw [if_neg (by simpa using chkR_run hr), if_pos (by rw [hc]; decide), hc]
    rw [decide_eq_true (by omega), cond_true, p2]; rfl
  · rw [decide_eq_false (by omega), cond_false]
    have hc := chkE_new (v := v) (t := 1) ck (by omega) (by omega) (by omega)
    have hd : (putR (fullTo 400) ⟨0, 0, (n : Int)⟩ v 1).length = 400 := by
      rw [put_len hr, hlen]; unfold dput; rw [hnow]; rfl
    have p2 : putE (fullTo 400) ⟨0, 0, (n : Int)⟩ v 1 = 0 := putE_zero.2 ⟨hr, hc, by omega, by omega⟩
    have hidx : idx (putR (fullTo 400) ⟨0, 0, (n : Int)⟩ v 1) (n : Int) = some (newE ⟨0, 0, (n : Int)⟩ v 1) := by
      rw [idx_nat']
      unfold putR upd
      have hh : clo (hist (fullTo 400) ⟨0, 0, (n : Int)⟩) 1 = [] := by
        obtain ⟨a, ha, hcl⟩ := clo_now (t := 1) hr.ord hnow
        rw [hcl, if_pos (show (fullAt n).made = 1 from rfl), List.append_nil]
        cases a with
        | nil => rfl
        | cons x a =>
          have hx : x ∈ hist (fullTo 400) ⟨0, 0, (n : Int)⟩ := by rw [ha]; simp
          obtain ⟨a', ha', hg⟩ := hist_now_some hr.ord hnow
          obtain rfl : a' = x :: a := List.append_cancel_right (ha'.symm.trans ha)
          have := hg x (by simp)
          obtain ⟨j, _, rfl⟩ := List.mem_map.1 (mem_hist.1 hx).1
          exact absurd rfl this
      have hlo := full_lo (show n < 400 by omega)
      have : (n : Nat) = (lo (fullTo 400) ⟨0, 0, (n : Int)⟩).length := hlo.symm
      rw [hh]
      conv => lhs; arg 2; rw [this]
      rw [List.getElem?_append_right (Nat.le_refl _)]; simp
    rw [if_pos p2, p2, hd, hidx]
    have rc := hr.cutR (k := ⟨0, 0, (n : Int)⟩) (t := 1 + (u : Int)) (by omega) (by omega) (by omega)
    have hcl := cut_len (t := 1 + (u : Int)) hr hnow
    have hcn : nowR (cutR (fullTo 400) ⟨0, 0, (n : Int)⟩ (1 + (u : Int))) ⟨0, 0, 1000⟩ = none := by
      rw [nowR_other (hist_cut_other hr (k' := ⟨0, 0, 1000⟩) (by intro e; have := congrArg DKey.off e; simp at this; omega)), full_none]
    have hpl := put_len (k := ⟨0, 0, 1000⟩) (v := ByteArray.mk #[]) (t := 1 + (u : Int)) rc
    have hdp : dput (cutR (fullTo 400) ⟨0, 0, (n : Int)⟩ (1 + (u : Int))) ⟨0, 0, 1000⟩ (1 + (u : Int)) = 1 := by unfold dput; rw [hcn]
    have hlc := last_cut (k := ⟨0, 0, (n : Int)⟩) (t := 1 + (u : Int)) hr (by omega) (by omega) (by omega)
    have hc2 := chkE_new (v := ByteArray.mk #[]) (t := 1 + (u : Int)) ck2 (by omega) (by omega) (by decide)
    have hm : (fullAt n).made = 1 := rfl
    rw [hm] at hcl
    have p3 : (putE (cutR (fullTo 400) ⟨0, 0, (n : Int)⟩ (1 + (u : Int))) ⟨0, 0, 1000⟩ (ByteArray.mk #[]) (1 + (u : Int)) == 0) = ((1 + (u : Int)) == 1) := by
      rw [Bool.eq_iff_iff, beq_iff_eq, beq_iff_eq, putE_zero]
      constructor
      · rintro ⟨_, _, _, h4⟩
        split at hcl <;> omega
      · intro h4
        refine ⟨rc, hc2, hlc, ?_⟩
        rw [if_pos h4.symm] at hcl; omega
    rw [p3]
    simp [newE, seq_self]
end Go.Proofs.Ytiaoncjkfgebdaa
