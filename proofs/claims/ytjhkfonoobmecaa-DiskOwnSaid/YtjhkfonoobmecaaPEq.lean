/- Plain Lean: slices.Equal, Index, Contains. Its conditions: none. -/
import Derived.Test.YtjhkfonoobmecaaEqsF
import Derived.Test.YtjhkfonoobmecaaPLoop
namespace Go.Proofs.Ytjhkfonoobmecaa
set_option linter.unusedVariables false
set_option linter.unusedSimpArgs false
variable {F : Nat} [Big F]

theorem equalF {α : Type} [DecidableEq α] (test : α → α → Bool) (ht : ∀ x y, test x y = true ↔ x = y) (p q : List α) (hp : p.length ≤ 9223372036854775807) :
    (bif ((p.length : Int) != (q.length : Int)) then
      some false
    else
      (iter (σ := Int) (ρ := (Unit) ⊕ Bool) (fun x1 =>
        bif decide (x1 < (p.length : Int)) then
            (idx p x1).bind fun e1 =>
            (idx q x1).bind fun e2 =>
            bif (!(test e1 e2)) then
              some (.inr (.inr false))
            else
              some (.inl (IntKind.i64.wrap (x1 + 1)))
          else
            some (.inr (.inl ()))) F 0).bind fun z => match z with
      | .inl _ =>
        some true
      | .inr q => some q) = some (decide (p = q)) := by
  by_cases hl : p.length = q.length
  · rw [show ((p.length : Int) != (q.length : Int)) = false by rw [bne_eq_false_iff_eq]; omega, cond_false]
    obtain ⟨W, hW⟩ : ∃ W : Nat → α → Option (Unit ⊕ Bool), ∀ k e, W k e = if q[k]? = some e then none else some (Sum.inr false) := ⟨_, fun _ _ => rfl⟩
    rw [loop_find p W (Sum.inl ()) hp rfl (fun k e hk _ => ?_) (by simp)]
    · by_cases he : p = q
      · subst he
        rw [find_none.2 fun k e hk => by rw [hW, if_pos hk], decide_eq_true rfl]; rfl
      · rw [decide_eq_false he]
        cases hf : p.zipIdx.findSome? fun a => W a.2 a.1 with
        | some r =>
          obtain ⟨k, e, _, hr⟩ := find_some hf
          rw [hW] at hr
          split at hr
          · cases hr
          · obtain rfl := Option.some.inj hr; rfl
        | none =>
          exfalso
          apply he
          rw [find_none] at hf
          apply List.ext_getElem?
          intro k
          cases hk : p[k]? with
          | none => rw [List.getElem?_eq_none_iff] at hk; rw [List.getElem?_eq_none (by omega)]
          | some e =>
            have := hf k e hk
            rw [hW] at this
            split at this
            · rename_i h; exact h.symm
            · cases this
    · have hkl := (List.getElem?_eq_some_iff.1 hk).1
      have hq : q[k]? = some (q[k]'(by omega)) := List.getElem?_eq_getElem (by omega)
      rw [decide_eq_true (by omega), cond_true, idx_nat', idx_nat', hk, hq, Option.bind_some, Option.bind_some, w64 (by omega) (by omega), hW]
      by_cases he : q[k]'(by omega) = e
      · rw [if_pos (by rw [hq, he]), (ht _ _).2 he.symm]; rfl
      · have hf : test e (q[k]'(by omega)) = false := by
          cases hx : test e (q[k]'(by omega))
          · rfl
          · exact absurd ((ht _ _).1 hx).symm he
        rw [if_neg (by rw [hq]; simpa using he), hf]; rfl
  · rw [show ((p.length : Int) != (q.length : Int)) = true by rw [bne_iff_ne]; omega, cond_true, decide_eq_false (fun e => hl (by rw [e]))]
theorem index_loop {α : Type} [DecidableEq α] (test : α → α → Bool) (ht : ∀ x y, test x y = true ↔ x = y) (l : List α) (v : α) (hl : l.length ≤ 9223372036854775807) :
    ∃ r : Int, ((iter (σ := Int) (ρ := (Unit) ⊕ Int) (fun x1 =>
        bif decide (x1 < (l.length : Int)) then
            (idx l x1).bind fun e1 =>
            bif (test v e1) then
              some (.inr (.inr x1))
            else
              some (.inl (IntKind.i64.wrap (x1 + 1)))
          else
            some (.inr (.inl ()))) F 0).bind fun z => match z with
      | .inl _ =>
        some (-1)
      | .inr q => some q) = some r ∧ (0 ≤ r ↔ v ∈ l) := by
  obtain ⟨W, hW⟩ : ∃ W : Nat → α → Option (Unit ⊕ Int), ∀ k e, W k e = if v = e then some (Sum.inr (k : Int)) else none := ⟨_, fun _ _ => rfl⟩
  rw [loop_find l W (Sum.inl ()) hl rfl (fun k e hk _ => ?_) (by simp)]
  · cases hf : l.zipIdx.findSome? fun a => W a.2 a.1 with
    | some r =>
      obtain ⟨k, e, hk, hr⟩ := find_some hf
      rw [hW] at hr
      split at hr
      · rename_i h
        obtain rfl := Option.some.inj hr
        exact ⟨(k : Int), rfl, ⟨fun _ => by rw [h]; exact List.mem_of_getElem? hk, fun _ => by omega⟩⟩
      · cases hr
    | none =>
      refine ⟨-1, rfl, ⟨fun h => by omega, fun h => ?_⟩⟩
      rw [find_none] at hf
      obtain ⟨k, hk, rfl⟩ := List.getElem_of_mem h
      have := hf k _ (List.getElem?_eq_getElem hk)
      rw [hW, if_pos rfl] at this
      cases this
  · have hkl := (List.getElem?_eq_some_iff.1 hk).1
    rw [decide_eq_true (by omega), cond_true, idx_nat', hk, Option.bind_some, w64 (by omega) (by omega), hW]
    by_cases he : v = e
    · rw [if_pos he, (ht _ _).2 he]; rfl
    · have hf : test v e = false := by
        cases hx : test v e
        · rfl
        · exact absurd ((ht _ _).1 hx) he
      rw [if_neg he, hf]; rfl
end Go.Proofs.Ytjhkfonoobmecaa
