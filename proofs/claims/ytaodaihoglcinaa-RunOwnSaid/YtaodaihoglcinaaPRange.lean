/- Plain Lean: what is read of a range of a run. Its conditions: none. -/
import Derived.Test.YtaodaihoglcinaaPRun
namespace Go.Proofs.Ytaodaihoglcinaa
set_option linter.unusedVariables false
set_option linter.unusedSimpArgs false
variable {F : Nat} [Big F]

def inR (a b : DKey) (t : Int) (e : DElem) : Bool := decide (cmpK a e.key ≤ 0) && (decide (cmpK e.key b ≤ 0) && live e t)
def rangeE (l : List DElem) (a b : DKey) : Int := if chkR l ≠ 0 then chkR l else if chkK a ≠ 0 then chkK a else chkK b
def rangeR (l : List DElem) (a b : DKey) (t : Int) : List DElem := if rangeE l a b = 0 then l.filter (inR a b t) else []
theorem rangeE_zero {l : List DElem} {a b : DKey} : rangeE l a b = 0 ↔ Run l ∧ chkK a = 0 ∧ chkK b = 0 := by
  unfold rangeE
  rw [← chkR_zero]
  split
  · simp_all
  · split <;> simp_all
theorem run_Range_eq (l : List DElem) (a b : DKey) (t : Int) : run_Range F l a b t = some (rangeR l a b t, rangeE l a b) := by
  unfold run_Range rangeR
  rw [run_Check_eq, Option.bind_some, key_Check_eq, Option.bind_some, key_Check_eq, Option.bind_some]
  by_cases h : chkR l = 0
  · rw [bne0_false h, cond_false]
    by_cases h2 : chkK a = 0
    · rw [bne0_false h2, cond_false]
      by_cases h3 : chkK b = 0
      · have hz := rangeE_zero.2 ⟨chkR_zero.1 h, h2, h3⟩
        have hlen := (chkR_zero.1 h).len
        rw [bne0_false h3, cond_false, hz, if_pos rfl]
        rw [loop_fold l (fun x e => if inR a b t e then x ++ [e] else x) [] (r := l.filter (inR a b t)) (by omega) rfl (fun k e hk => ?_) (by rw [foldl_filter, List.nil_append]; simp), Option.bind_some]
        have hkl := (List.getElem?_eq_some_iff.1 hk).1
        have hfl : ((l.take k).foldl (fun x e => if inR a b t e then x ++ [e] else x) []).length ≤ 400 := by
          rw [foldl_filter, List.nil_append]
          have := List.length_filter_le (inR a b t) (l.take k)
          rw [List.length_take] at this
          omega
        generalize (l.take k).foldl (fun x e => if inR a b t e then x ++ [e] else x) [] = acc at hfl
        dsimp only
        rw [decide_eq_true (by omega), cond_true, idx_nat', hk, Option.bind_some, key_Cmp_eq, Option.bind_some, w64 (by omega) (by omega)]
        have hg : grow 56 acc [e] = some (acc ++ [e]) := grow_ok (by simp; omega) (by simp; omega)
        unfold inR
        by_cases c1 : cmpK a e.key ≤ 0
        · by_cases c2 : cmpK e.key b ≤ 0
          · cases c3 : live e t <;> simp [c1, c2, c3, key_Cmp_eq, elem_Live_eq, hg]
          · simp [c1, c2, key_Cmp_eq]
        · simp [c1]
      · have hz : rangeE l a b = chkK b := by unfold rangeE; rw [if_neg (by simpa using h), if_neg (by simpa using h2)]
        rw [bne0_true h3, cond_true, hz, if_neg h3]
    · have hz : rangeE l a b = chkK a := by unfold rangeE; rw [if_neg (by simpa using h), if_pos h2]
      rw [bne0_true h2, cond_true, hz, if_neg h2]
  · have hz : rangeE l a b = chkR l := by unfold rangeE; rw [if_pos h]
    rw [bne0_true h, cond_true, hz, if_neg h]
end Go.Proofs.Ytaodaihoglcinaa
