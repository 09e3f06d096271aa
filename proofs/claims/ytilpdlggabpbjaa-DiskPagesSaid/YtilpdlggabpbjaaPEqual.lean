/- Plain Lean: slices.Equal, for whatever elements. Its conditions: none. -/
import Derived.Test.YtilpdlggabpbjaaBytes
namespace Go.Proofs.Ytilpdlggabpbjaa
set_option linter.unusedVariables false
set_option linter.unusedSimpArgs false

theorem equal_loop {α : Type} [DecidableEq α] (test : α → α → Bool) (ht : ∀ x y, test x y = true ↔ x = y) (p q : List α) (hp : p.length ≤ 9223372036854775807) (hq : q.length ≤ 9223372036854775807) :
    (bif ((p.length : Int) != (q.length : Int)) then
      some false
    else
      (iter (σ := Int) (ρ := (Unit) ⊕ Bool) (fun x1 =>
        bif decide (x1 < (p.length : Int)) then
            (idx p x1).bind fun e1 =>
            (idx q x1).bind fun e2 =>
            bif (!(test e1 e2)) then
              some (.inr (.inr false))
            else
              some (.inl (IntKind.i64.wrap (x1 + 1)))
          else
            some (.inr (.inl ()))) FUEL 0).bind fun z => match z with
      | .inl _ =>
        some true
      | .inr q => some q) = some (decide (p = q)) := by
  have idxn : ∀ (l : List α) (k : Nat), idx l (k : Int) = l[k]? := fun l k => by
    unfold idx; rw [if_neg (by omega), Int.toNat_natCast]
  by_cases hl : p.length = q.length
  · rw [show ((p.length : Int) != (q.length : Int)) = false by rw [bne_eq_false_iff_eq]; omega, cfalse]
    have key := iter_scan (ρ := Unit ⊕ Bool) (f := fun x1 : Int =>
        bif decide (x1 < (p.length : Int)) then
            (idx p x1).bind fun e1 =>
            (idx q x1).bind fun e2 =>
            bif (!(test e1 e2)) then
              some (.inr (.inr false))
            else
              some (.inl (IntKind.i64.wrap (x1 + 1)))
          else
            some (.inr (.inl ()))) (fun k => (k : Int)) (fun k => if p[k]? = q[k]? then none else some (.inr false)) p.length (res := .inl ()) (fun k hk => by
      rw [decide_eq_true (show (k : Int) < (p.length : Int) by omega), ctrue, idxn, idxn, List.getElem?_eq_getElem hk, List.getElem?_eq_getElem (show k < q.length by omega), obind, obind]
      by_cases he : p[k] = q[k]'(by omega)
      · rw [if_pos (by rw [he]), he, (ht _ _).2 rfl, Bool.not_true, cfalse, wrap64 (by omega) (by omega)]; rfl
      · have hf : test p[k] (q[k]'(by omega)) = false := by
          cases hx : test p[k] (q[k]'(by omega))
          · rfl
          · exact absurd ((ht _ _).1 hx) he
        rw [if_neg (by simpa using he), hf]; rfl) (by
      rw [decide_eq_false (by omega)]; rfl) p.length 0 FUEL (by omega) (lt_FUEL hp)
    rw [show iter _ FUEL (0 : Int) = _ from key, obind]
    by_cases he : p = q
    · subst he
      have : (List.range' 0 p.length).findSome? (fun k => if p[k]? = p[k]? then none else some (Sum.inr false : Unit ⊕ Bool)) = none := by simp
      rw [this]; simp
    · have hx : ∃ k, k < p.length ∧ p[k]? ≠ q[k]? := by
        by_cases hx : ∃ k, k < p.length ∧ p[k]? ≠ q[k]?
        · exact hx
        · exfalso
          apply he
          apply List.ext_getElem?
          intro k
          by_cases hk : k < p.length
          · by_cases h2 : p[k]? = q[k]?
            · exact h2
            · exact absurd ⟨k, hk, h2⟩ hx
          · rw [List.getElem?_eq_none (by omega), List.getElem?_eq_none (by omega)]
      have : (List.range' 0 p.length).findSome? (fun k => if p[k]? = q[k]? then none else some (Sum.inr false : Unit ⊕ Bool)) = some (.inr false) := by
        cases hf : (List.range' 0 p.length).findSome? (fun k => if p[k]? = q[k]? then none else some (Sum.inr false : Unit ⊕ Bool)) with
        | none =>
          rw [List.findSome?_eq_none_iff] at hf
          obtain ⟨k, hk, h2⟩ := hx
          have := hf k (by simp [List.mem_range']; omega)
          rw [if_neg h2] at this
          cases this
        | some r =>
          obtain ⟨k, _, hr⟩ := List.exists_of_findSome?_eq_some hf
          split at hr
          · cases hr
          · exact hr.symm
      rw [this]
      simp [he]
  · rw [show ((p.length : Int) != (q.length : Int)) = true by rw [bne_iff_ne]; omega, ctrue, decide_eq_false (fun e => hl (by rw [e]))]
end Go.Proofs.Ytilpdlggabpbjaa
