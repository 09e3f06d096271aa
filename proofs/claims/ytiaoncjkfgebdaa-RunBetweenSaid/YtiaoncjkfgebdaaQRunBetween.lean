/- Plain Lean: the law RunBetween. Its conditions: none. -/
import Derived.Test.YtiaoncjkfgebdaaWRunBetweenF
import Derived.Test.YtiaoncjkfgebdaaPRunL
namespace Go.Proofs.Ytiaoncjkfgebdaa
set_option linter.unusedVariables false
set_option linter.unusedSimpArgs false
/-- The next time at which something happens. -/
def nextT (t : Int) (n : Int) (e : DElem) : Int :=
  let m := if t < e.made ∧ e.made < n then e.made else n
  if t < e.gone ∧ e.gone < m then e.gone else m
theorem nextT_spec (t : Int) (l : List DElem) : ∀ n : Int, (l.foldl (nextT t) n ≤ n) ∧ (∀ e ∈ l, (t < e.made → l.foldl (nextT t) n ≤ e.made) ∧ (t < e.gone → l.foldl (nextT t) n ≤ e.gone)) ∧ (l.foldl (nextT t) n = n ∨ t < l.foldl (nextT t) n) := by
  induction l with
  | nil => intro n; exact ⟨Int.le_refl _, by simp, .inl rfl⟩
  | cons a l ih =>
    intro n
    rw [List.foldl_cons]
    obtain ⟨h1, h2, h3⟩ := ih (nextT t n a)
    have h4 : nextT t n a ≤ n ∧ (t < a.made → nextT t n a ≤ a.made) ∧ (t < a.gone → nextT t n a ≤ a.gone) ∧ (nextT t n a = n ∨ t < nextT t n a) := by
      unfold nextT
      dsimp only
      split <;> split <;> omega
    refine ⟨by omega, fun e he => ?_, by omega⟩
    rcases List.mem_cons.1 he with rfl | he
    · exact ⟨fun h => by have := h4.2.1 h; omega, fun h => by have := h4.2.2.1 h; omega⟩
    · exact h2 e he
theorem range_congr {l : List DElem} {a b : DKey} {t u : Int} (h : Run l → ∀ e ∈ l, live e t = live e u) : rangeR l a b t = rangeR l a b u := by
  unfold rangeR
  split
  · rename_i hz
    have hr := (rangeE_zero.1 hz).1
    refine List.filter_congr fun e he => ?_
    unfold inR
    rw [h hr e he]
  · rfl
theorem rangeR_len (l : List DElem) (a b : DKey) (t : Int) : (rangeR l a b t).length ≤ 400 := by
  unfold rangeR
  split
  · rename_i hz
    have := (rangeE_zero.1 hz).1.len
    have := List.length_filter_le (inR a b t) l
    omega
  · simp
theorem annalkeep_RunBetween_true (F : Nat) [Big F] (l : List DElem) (a b : DKey) (t : Int) (_ : okAllW 56 okElem l) (_ : okKey a) (_ : okKey b) (ht : okInt .i64 t) : annalkeep_RunBetween F l a b t = some true := by
  unfold annalkeep_RunBetween
  have s1 : run_Last F [⟨⟨0, 0, 0⟩, 2, 5, ByteArray.mk #[]⟩] = some (5, 0) := by rw [run_Last_eq]; rfl
  have s2 : run_Range F [⟨⟨0, 0, 0⟩, 2, 5, ByteArray.mk #[]⟩] ⟨0, 0, 0⟩ ⟨0, 0, 0⟩ 4 = some ([⟨⟨0, 0, 0⟩, 2, 5, ByteArray.mk #[]⟩], 0) := by rw [run_Range_eq]; rfl
  have s3 : ((List.length [(⟨⟨0, 0, 0⟩, 2, 5, ByteArray.mk #[]⟩ : DElem)] : Int) != 1) = false := rfl
  simp only [Option.bind_some, s1, s2, s3, bne_self_eq_false, Bool.or_false, cond_false]
  simp only [run_Range_eq, run_Last_eq, Option.bind_some]
  by_cases hz : rangeE l a b = 0
  · have hr := (rangeE_zero.1 hz).1
    have hlen := hr.len
    rw [bne0_false hz, cond_false]
    rw [loop_fold l (nextT t) 2147483647 (r := l.foldl (nextT t) 2147483647) (by omega) rfl (fun k e hk => ?_) (by simp), Option.bind_some]
    · obtain ⟨n1, n2, n3⟩ := nextT_spec t l 2147483647
      generalize l.foldl (nextT t) 2147483647 = n at n1 n2 n3
      have htb : -9223372036854775808 ≤ t ∧ t ≤ 9223372036854775807 := okInt_i64 ht
      rw [w64 (by omega) (by omega)]
      have e1 : rangeR l a b t = rangeR l a b (if t < n - 1 then n - 1 else t) := range_congr fun _ e he => by
        obtain ⟨g1, g2⟩ := n2 e he
        rw [Bool.eq_iff_iff, live_iff, live_iff]
        split <;> omega
      have e2 : rangeR l a b (lastL l) = rangeR l a b 2147483647 := range_congr fun _ e he => by
        rw [live_late (le_lastL he), live_late (by have := le_lastL he; have := hr.last_le; omega)]
      rw [hz, chkR_run hr, if_pos rfl, ← e1, ← e2, eqElem_self _ (by have := rangeR_len l a b t; omega), eqElem_self _ (by have := rangeR_len l a b (lastL l); omega)]
      rfl
    · have hkl := (List.getElem?_eq_some_iff.1 hk).1
      generalize (l.take k).foldl (nextT t) 2147483647 = acc
      dsimp only
      rw [decide_eq_true (by omega), cond_true, idx_nat', hk, Option.bind_some, w64 (n := (k : Int) + 1) (by omega) (by omega)]
      unfold nextT
      dsimp only
      by_cases c1 : t < e.made ∧ e.made < acc
      · rw [decide_eq_true c1.1, decide_eq_true c1.2, if_pos c1]
        simp only [Bool.and_true, cond_true, Option.bind_some]
        by_cases c2 : t < e.gone ∧ e.gone < e.made
        · rw [decide_eq_true c2.1, decide_eq_true c2.2, if_pos c2]; rfl
        · rw [show (decide (t < e.gone) && decide (e.gone < e.made)) = false by rw [Bool.and_eq_false_iff]; simp; omega, if_neg c2]; rfl
      · rw [show (decide (t < e.made) && decide (e.made < acc)) = false by rw [Bool.and_eq_false_iff]; simp; omega, if_neg c1]
        simp only [cond_false, Option.bind_some]
        by_cases c2 : t < e.gone ∧ e.gone < acc
        · rw [decide_eq_true c2.1, decide_eq_true c2.2, if_pos c2]; rfl
        · rw [show (decide (t < e.gone) && decide (e.gone < acc)) = false by rw [Bool.and_eq_false_iff]; simp; omega, if_neg c2]; rfl
  · have : rangeR l a b t = [] := by unfold rangeR; rw [if_neg hz]
    rw [bne0_true hz, cond_true, this]; rfl
end Go.Proofs.Ytiaoncjkfgebdaa
