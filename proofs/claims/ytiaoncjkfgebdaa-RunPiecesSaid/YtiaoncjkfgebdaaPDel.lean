/- Plain Lean: slices.IndexFunc and slices.DeleteFunc as loops. Its conditions: none. -/
import Derived.Test.YtiaoncjkfgebdaaPLoop
namespace Go.Proofs.Ytiaoncjkfgebdaa
set_option linter.unusedVariables false
set_option linter.unusedSimpArgs false
variable {F : Nat} [Big F] {α : Type}
theorem loop_index {f : Int → Option (Int ⊕ (Unit ⊕ Int))} (l : List α) (p : α → Bool) (hn : l.length ≤ 9223372036854775807)
    (hs : ∀ (k : Nat) (x : α), l[k]? = some x → f (k : Int) = some (if p x then .inr (.inr (k : Int)) else .inl ((k : Int) + 1)))
    (he : f (l.length : Int) = some (.inr (.inl ()))) : iter f F 0 = some (match l.findIdx? p with | some i => .inr (i : Int) | none => .inl ()) := by
  cases h : l.findIdx? p with
  | none =>
    rw [List.findIdx?_eq_none_iff] at h
    refine loop_run (fun k => (k : Int)) l.length (show (0 : Int) = _ from rfl) hn (fun k hk => ?_) he
    rw [hs k _ (List.getElem?_eq_getElem hk), h _ (List.getElem_mem hk)]; rfl
  | some i =>
    rw [List.findIdx?_eq_some_iff_getElem] at h
    obtain ⟨hi, h1, h2⟩ := h
    refine loop_run (fun k => (k : Int)) i (show (0 : Int) = _ from rfl) (by omega) (fun k hk => ?_) ?_
    · rw [hs k _ (List.getElem?_eq_getElem (by omega)), if_neg (h2 k hk)]; rfl
    · show f (i : Int) = _
      rw [hs i _ (List.getElem?_eq_getElem hi), if_pos h1]
/-- The packing, step for step. -/
def dst (q : α → Bool) (l : List α) (i0 : Nat) : Nat → List α × Nat
  | 0 => (l, i0)
  | k + 1 => match l[i0 + 1 + k]? with
    | some x => if q x then ((dst q l i0 k).1.set (dst q l i0 k).2 x, (dst q l i0 k).2 + 1) else dst q l i0 k
    | none => dst q l i0 k
theorem dst_inv (q : α → Bool) (l : List α) (i0 : Nat) (h0 : (l.take (i0 + 1)).filter q = l.take i0) (hi : i0 < l.length) : ∀ k, i0 + 1 + k ≤ l.length →
    (dst q l i0 k).1.length = l.length ∧ (dst q l i0 k).2 < i0 + 1 + k ∧ (dst q l i0 k).1.take (dst q l i0 k).2 = (l.take (i0 + 1 + k)).filter q ∧ (dst q l i0 k).1.drop (i0 + 1 + k) = l.drop (i0 + 1 + k)
  | 0, _ => ⟨rfl, by show i0 < _; omega, by show l.take i0 = _; exact h0.symm, rfl⟩
  | k + 1, hk => by
    obtain ⟨h1, h2, h3, h4⟩ := dst_inv q l i0 h0 hi k (by omega)
    have hlt : i0 + 1 + k < l.length := by omega
    have hx := List.getElem?_eq_getElem hlt
    have ht : l.take (i0 + 1 + (k + 1)) = l.take (i0 + 1 + k) ++ [l[i0 + 1 + k]] := by rw [show i0 + 1 + (k + 1) = (i0 + 1 + k) + 1 by omega, List.take_add_one, hx]; rfl
    have h5 : (dst q l i0 k).1.drop (i0 + 1 + (k + 1)) = l.drop (i0 + 1 + (k + 1)) := by
      rw [show i0 + 1 + (k + 1) = (i0 + 1 + k) + 1 by omega, ← List.drop_drop, h4, List.drop_drop]
    rw [dst, hx]
    dsimp only
    rw [ht, List.filter_append]
    by_cases hq : q l[i0 + 1 + k] = true
    · rw [if_pos hq]
      dsimp only
      refine ⟨by rw [List.length_set, h1], by omega, ?_, ?_⟩
      · rw [List.take_add_one, List.take_set_of_le (Nat.le_refl _), h3, List.getElem?_set, if_pos rfl, if_pos (by omega)]
        simp [hq]
      · rw [List.drop_set_of_lt (by omega), h5]
    · rw [if_neg hq]
      refine ⟨h1, by omega, ?_, h5⟩
      rw [h3]; simp [hq]
theorem loop_pack {f : List α × Int × Int → Option ((List α × Int × Int) ⊕ (List α × Int))} (l : List α) (q : α → Bool) (i0 : Nat) (hi : i0 < l.length) (hn : l.length ≤ 9223372036854775806) (h0 : (l.take (i0 + 1)).filter q = l.take i0)
    (hs : ∀ (A : List α) (i j : Nat) (x : α), A.length = l.length → i < j → A[j]? = some x → f (A, (i : Int), (j : Int)) = some (.inl (if q x then A.set i x else A, if q x then (i : Int) + 1 else (i : Int), (j : Int) + 1)))
    (he : ∀ (A : List α) (i : Nat), A.length = l.length → f (A, (i : Int), (l.length : Int)) = some (.inr (A, (i : Int)))) :
    ∃ (A : List α) (i : Nat), iter f F (l, (i0 : Int), (i0 : Int) + 1) = some (A, (i : Int)) ∧ A.length = l.length ∧ i ≤ l.length ∧ A.take i = l.filter q := by
  have inv := dst_inv q l i0 h0 hi
  obtain ⟨e1, e2, e3, e4⟩ := inv (l.length - (i0 + 1)) (by omega)
  refine ⟨_, _, loop_run (fun k => ((dst q l i0 k).1, ((dst q l i0 k).2 : Int), ((i0 + 1 + k : Nat) : Int))) (l.length - (i0 + 1)) (r := ((dst q l i0 (l.length - (i0 + 1))).1, ((dst q l i0 (l.length - (i0 + 1))).2 : Int))) rfl (by omega) (fun k hk => ?_) ?_, e1, by omega, ?_⟩
  · obtain ⟨h1, h2, h3, h4⟩ := inv k (by omega)
    have hlt : i0 + 1 + k < l.length := by omega
    have hx : (dst q l i0 k).1[i0 + 1 + k]? = some l[i0 + 1 + k] := by
      have := congrArg (fun m => m[0]?) h4
      simp only [List.getElem?_drop, Nat.add_zero] at this
      rw [this, List.getElem?_eq_getElem hlt]
    rw [hs _ _ _ _ h1 h2 hx]
    have hd : dst q l i0 (k + 1) = if q l[i0 + 1 + k] then ((dst q l i0 k).1.set (dst q l i0 k).2 l[i0 + 1 + k], (dst q l i0 k).2 + 1) else dst q l i0 k := by
      conv => lhs; rw [dst, List.getElem?_eq_getElem hlt]
    rw [hd]
    by_cases hq : q l[i0 + 1 + k] = true
    · simp only [hq, if_true]; rfl
    · simp only [hq, if_false]; rfl
  · rw [show i0 + 1 + (l.length - (i0 + 1)) = l.length by omega]
    exact he _ _ e1
  · rw [e3, show i0 + 1 + (l.length - (i0 + 1)) = l.length by omega, List.take_length]
theorem findIdx_take {l : List α} {q : α → Bool} {i : Nat} (h : l.findIdx? (fun x => !q x) = some i) : i < l.length ∧ (l.take (i + 1)).filter q = l.take i := by
  rw [List.findIdx?_eq_some_iff_getElem] at h
  obtain ⟨hi, h1, h2⟩ := h
  refine ⟨hi, ?_⟩
  rw [List.take_add_one, List.getElem?_eq_getElem hi, List.filter_append]
  have hq : q l[i] = false := by simpa using h1
  have : (l.take i).filter q = l.take i := by
    rw [List.filter_eq_self]
    intro x hx
    obtain ⟨j, hj, rfl⟩ := List.getElem_of_mem hx
    rw [List.length_take] at hj
    rw [List.getElem_take]
    simpa using h2 j (by omega)
  rw [this]; simp [hq]
theorem take_over (A m : List α) (i : Nat) (h : i ≤ A.length) : (over A i m).take i = A.take i := by
  unfold over
  rw [List.append_assoc, List.take_append_of_le_length (by rw [List.length_take]; omega), List.take_take, Nat.min_self]
end Go.Proofs.Ytiaoncjkfgebdaa
