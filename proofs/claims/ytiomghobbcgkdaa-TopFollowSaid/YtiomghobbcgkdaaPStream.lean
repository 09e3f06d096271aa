/- Plain Lean: what the functions on streams compute. Its conditions: none. -/
import Derived.Test.YtiomghobbcgkdaaStreamF
import Derived.Test.YtiomghobbcgkdaaMStream
import Derived.Test.YtiomghobbcgkdaaPRun
import Derived.Test.YtiomghobbcgkdaaFCode
namespace Go.Proofs.Ytiomghobbcgkdaa
set_option linter.unusedVariables false
set_option linter.unusedSimpArgs false
variable {F : Nat} [Big F]

def lookE (p a b : Int) : Int := if p < 0 ∨ 15 < p then 1 else if a < 0 ∨ b < a ∨ 2147483647 < b then 9 else 0
theorem stream_look_eq (p a b : Int) : stream_look p a b = some (lookE p a b) := by
  unfold stream_look lookE
  simp only [Bool.cond_eq_ite, Bool.or_eq_true, decide_eq_true_eq]
  split
  · rfl
  · split <;> rfl
theorem lookE_zero {p a b : Int} : lookE p a b = 0 ↔ 0 ≤ p ∧ p ≤ 15 ∧ 0 ≤ a ∧ a ≤ b ∧ b ≤ 2147483647 := by
  unfold lookE
  split
  · constructor
    · intro h; cases h
    · omega
  · split
    · constructor
      · intro h; cases h
      · omega
    · constructor
      · omega
      · intro _; rfl
theorem stream_then_eq (e : DElem) (t : Int) : stream_then e t = some (thenE t e, decide (e.made ≤ t)) := by
  unfold stream_then thenE
  by_cases h : t < e.gone
  · simp [h]
  · simp [h]
theorem foldl_filter_map {α β : Type} (p : α → Bool) (g : α → β) (l : List α) : ∀ a : List β, l.foldl (fun a e => if p e then a ++ [g e] else a) a = a ++ (l.filter p).map g := by
  induction l with
  | nil => intro a; simp
  | cons x l ih =>
    intro a
    rw [List.foldl_cons, ih, List.filter_cons]
    split <;> simp
def uptoE (l : List DElem) (pfs t : Int) : Int := if chkR l ≠ 0 then chkR l else lookE pfs 0 t
theorem uptoE_zero {l : List DElem} {pfs t : Int} : uptoE l pfs t = 0 ↔ Run l ∧ 0 ≤ pfs ∧ pfs ≤ 15 ∧ 0 ≤ t ∧ t ≤ 2147483647 := by
  unfold uptoE
  rw [← chkR_zero]
  by_cases h : chkR l = 0
  · rw [if_neg (by simpa using h), lookE_zero, and_iff_right h]
    constructor <;> intro h <;> omega
  · rw [if_pos h]
    exact ⟨fun h' => absurd h' h, fun h' => absurd h'.1 h⟩
theorem stream_Upto_eq (l : List DElem) (pfs t : Int) : stream_Upto F l pfs t = some (if uptoE l pfs t = 0 then uptoR l pfs t else [], uptoE l pfs t) := by
  unfold stream_Upto
  rw [run_Check_eq, Option.bind_some, stream_look_eq, Option.bind_some]
  by_cases h : chkR l = 0
  · rw [bne0_false h, cond_false]
    by_cases h2 : lookE pfs 0 t = 0
    · have hz : uptoE l pfs t = 0 := by unfold uptoE; rw [if_neg (by simpa using h), h2]
      have hlen := (chkR_zero.1 h).len
      rw [bne0_false h2, cond_false, hz, if_pos rfl]
      rw [loop_fold l (fun x e => if (decide (e.made ≤ t) && e.key.pfs == pfs) then x ++ [thenE t e] else x) [] (r := uptoR l pfs t) (by omega) rfl (fun k e hk => ?_) (by rw [foldl_filter_map, List.nil_append]; simp [uptoR])]
      · rfl
      · have hkl := (List.getElem?_eq_some_iff.1 hk).1
        have hfl : ((l.take k).foldl (fun x e => if (decide (e.made ≤ t) && e.key.pfs == pfs) then x ++ [thenE t e] else x) []).length ≤ 400 := by
          rw [foldl_filter_map, List.nil_append, List.length_map]
          have := List.length_filter_le (fun e : DElem => decide (e.made ≤ t) && e.key.pfs == pfs) (l.take k)
          rw [List.length_take] at this
          omega
        generalize (l.take k).foldl (fun x e => if (decide (e.made ≤ t) && e.key.pfs == pfs) then x ++ [thenE t e] else x) [] = acc at hfl
        have hg : grow 56 acc [thenE t e] = some (acc ++ [thenE t e]) := grow_ok (by simp; omega) (by simp; omega)
        dsimp only
        rw [decide_eq_true (by omega), cond_true, idx_nat', hk, Option.bind_some, stream_then_eq, Option.bind_some, w64 (by omega) (by omega)]
        dsimp only
        cases hc : (decide (e.made ≤ t) && e.key.pfs == pfs)
        · rw [cond_false, Option.bind_some]; rfl
        · rw [cond_true, hg]; rfl
    · have hz : uptoE l pfs t = lookE pfs 0 t := by unfold uptoE; rw [if_neg (by simpa using h)]
      rw [bne0_true h2, cond_true, hz, if_neg h2]
  · have hz : uptoE l pfs t = chkR l := by unfold uptoE; rw [if_pos h]
    rw [bne0_true h, cond_true, hz, if_neg h]
end Go.Proofs.Ytiomghobbcgkdaa
