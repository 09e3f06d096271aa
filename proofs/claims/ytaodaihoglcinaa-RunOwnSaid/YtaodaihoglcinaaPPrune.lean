/- Plain Lean: what stays of a run. Its conditions: none. -/
import Derived.Test.YtaodaihoglcinaaPruneF
import Derived.Test.YtaodaihoglcinaaPRun
namespace Go.Proofs.Ytaodaihoglcinaa
set_option linter.unusedVariables false
set_option linter.unusedSimpArgs false
variable {F : Nat} [Big F]
/-- The error of times. -/
def timesE (l : List Int) : Int := if 20 < l.length then 2 else if l.all fun t => decide (0 ≤ t) && decide (t ≤ 2147483647) then 0 else 9
theorem timesE_zero {l : List Int} : timesE l = 0 ↔ l.length ≤ 20 ∧ ∀ t ∈ l, 0 ≤ t ∧ t ≤ 2147483647 := by
  unfold timesE
  split
  · constructor
    · intro h; cases h
    · intro h; omega
  · split
    · rename_i h1 h2
      rw [List.all_eq_true] at h2
      refine ⟨fun _ => ⟨by omega, fun t ht => by simpa using h2 t ht⟩, fun _ => rfl⟩
    · rename_i h1 h2
      constructor
      · intro h; cases h
      · intro h; exfalso; apply h2; rw [List.all_eq_true]; intro t ht; simpa using h.2 t ht
theorem prune_times_eq (l : List Int) : prune_times F l = some (timesE l) := by
  unfold prune_times timesE
  by_cases h : 20 < l.length
  · rw [if_pos h, decide_eq_true (by omega), cond_true]
  · rw [if_neg h, decide_eq_false (by omega), cond_false]
    rw [loop_first l (fun t => if (decide (0 ≤ t) && decide (t ≤ 2147483647)) = true then none else some (Sum.inr 9)) (Sum.inl ()) (by omega) rfl (fun k e hk => ?_) (by simp)]
    · cases hf : l.findSome? fun t => if (decide (0 ≤ t) && decide (t ≤ 2147483647)) = true then none else some (Sum.inr 9 : Unit ⊕ Int) with
      | none =>
        rw [List.findSome?_eq_none_iff] at hf
        rw [if_pos (List.all_eq_true.2 fun t ht => by
          have := hf t ht
          split at this
          · assumption
          · cases this)]; rfl
      | some r =>
        obtain ⟨t, ht, hr⟩ := List.exists_of_findSome?_eq_some hf
        split at hr
        · cases hr
        · rename_i h1
          obtain rfl := Option.some.inj hr
          rw [if_neg (fun h2 => h1 (List.all_eq_true.1 h2 t ht))]; rfl
    · have hkl := (List.getElem?_eq_some_iff.1 hk).1
      rw [decide_eq_true (by omega), cond_true, idx_nat', hk, Option.bind_some, w64 (by omega) (by omega)]
      by_cases h1 : 0 ≤ e ∧ e ≤ 2147483647
      · rw [show (decide (e < 0) || decide ((2147483647 : Int) < e)) = false by rw [Bool.or_eq_false_iff]; simp; omega, cond_false, if_pos (by simpa using h1)]
      · rw [show (decide (e < 0) || decide ((2147483647 : Int) < e)) = true by rw [Bool.or_eq_true]; simp; omega, cond_true, if_neg (by simpa using h1)]
def staysR (e : DElem) (ts : List Int) : Bool := (e.gone == 0) || ts.any fun t => live e t
theorem prune_stays_eq (e : DElem) (ts : List Int) (hl : ts.length ≤ 9223372036854775807) : prune_stays F e ts = some (staysR e ts) := by
  unfold prune_stays staysR
  by_cases h : e.gone = 0
  · rw [beq_iff_eq.2 h]; rfl
  · rw [beq_eq_false_iff_ne.2 h, cond_false, Bool.false_or]
    rw [loop_first ts (fun t => if live e t = true then some (Sum.inr true) else none) (Sum.inl ()) hl rfl (fun k x hk => ?_) (by simp)]
    · cases hf : ts.findSome? fun t => if live e t = true then some (Sum.inr true : Unit ⊕ Bool) else none with
      | none =>
        rw [List.findSome?_eq_none_iff] at hf
        rw [show (ts.any fun t => live e t) = false by
          rw [List.any_eq_false]; intro t ht hv; have := hf t ht; rw [if_pos hv] at this; cases this]; rfl
      | some r =>
        obtain ⟨t, ht, hr⟩ := List.exists_of_findSome?_eq_some hf
        split at hr
        · rename_i hv
          obtain rfl := Option.some.inj hr
          rw [List.any_eq_true.2 ⟨t, ht, hv⟩]; rfl
        · cases hr
    · have hkl := (List.getElem?_eq_some_iff.1 hk).1
      rw [decide_eq_true (by omega), cond_true, idx_nat', hk, Option.bind_some, w64 (by omega) (by omega), elem_Live_eq, Option.bind_some]
      cases live e x <;> rfl
def keptE (l : List DElem) (ts : List Int) : Int := if chkR l ≠ 0 then chkR l else timesE ts
def keptR (l : List DElem) (ts : List Int) : List DElem := if keptE l ts = 0 then l.filter fun e => staysR e ts else []
theorem keptE_zero {l : List DElem} {ts : List Int} : keptE l ts = 0 ↔ Run l ∧ timesE ts = 0 := by
  unfold keptE
  rw [← chkR_zero]
  split <;> simp_all
theorem prune_Kept_eq (l : List DElem) (ts : List Int) : prune_Kept F l ts = some (keptR l ts, keptE l ts) := by
  unfold prune_Kept keptR
  rw [run_Check_eq, Option.bind_some, prune_times_eq, Option.bind_some]
  by_cases h : chkR l = 0
  · have hE : keptE l ts = timesE ts := by unfold keptE; rw [if_neg (by simpa using h)]
    have hlen := (chkR_zero.1 h).len
    rw [bne0_false h, cond_false, hE]
    by_cases h2 : timesE ts = 0
    · have ht := (timesE_zero.1 h2).1
      rw [bne0_false h2, cond_false, if_pos h2]
      rw [loop_fold l (fun x e => if staysR e ts then x ++ [e] else x) [] (r := l.filter fun e => staysR e ts) (by omega) rfl (fun k e hk => ?_) (by rw [foldl_filter, List.nil_append]; simp), Option.bind_some, h2]
      have hkl := (List.getElem?_eq_some_iff.1 hk).1
      have hfl : ((l.take k).foldl (fun x e => if staysR e ts then x ++ [e] else x) []).length ≤ 400 := by
        rw [foldl_filter, List.nil_append]
        have := List.length_filter_le (fun e => staysR e ts) (l.take k)
        rw [List.length_take] at this
        omega
      generalize (l.take k).foldl (fun x e => if staysR e ts then x ++ [e] else x) [] = acc at hfl
      dsimp only
      rw [decide_eq_true (by omega), cond_true, idx_nat', hk, Option.bind_some, prune_stays_eq e ts (by omega), Option.bind_some, w64 (by omega) (by omega)]
      cases hv : staysR e ts
      · rfl
      · rw [cond_true, grow_ok (by simp; omega) (by simp; omega)]; rfl
    · rw [bne0_true h2, cond_true, if_neg h2]
  · have hE : keptE l ts = chkR l := by unfold keptE; rw [if_pos h]
    rw [bne0_true h, cond_true, hE, if_neg h]
theorem keptR_run {l : List DElem} {ts : List Int} (h : keptE l ts = 0) : Run (keptR l ts) := by
  unfold keptR; rw [if_pos h]
  exact (keptE_zero.1 h).1.sub List.filter_sublist
end Go.Proofs.Ytaodaihoglcinaa
