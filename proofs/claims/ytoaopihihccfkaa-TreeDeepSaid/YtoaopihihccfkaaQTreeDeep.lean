/- Plain Lean: records of a tree are sorted, and its depth is logarithmic. Its conditions: none beyond what holds of every argument. -/
import Derived.Test.YtoaopihihccfkaaWTreeDeepF
import Derived.Test.YtoaopihihccfkaaPTree
namespace Go.Proofs.Ytoaopihihccfkaa
set_option linter.unusedVariables false
set_option linter.unusedSimpArgs false
theorem tree_New_good : Good ⟨0, [⟨1, [], [], [], []⟩]⟩ 0 := by
  have hc : chkN ⟨1, [], [], [], []⟩ = 0 := chkN_zero.2 (.inr (.inl ⟨rfl, ⟨rfl, rfl, rfl, Nat.zero_le _, fun e he => (by cases he), List.Pairwise.nil⟩⟩))
  refine ⟨by simp, fun n hn => ?_, ⟨⟨by decide, by simp⟩, rfl, fun h => absurd h (by decide), fun x hx => (by cases hx)⟩, by simp [ids], fun i hi _ => ?_⟩
  · obtain rfl : n = ⟨1, [], [], [], []⟩ := by simpa using hn
    exact hc
  · simp [ids] at hi ⊢; exact hi
theorem small_leaf : ∀ n ∈ (⟨0, [⟨1, [], [], [], []⟩]⟩ : DTree).nodes, Small n := fun n hn => by
  obtain rfl : n = ⟨1, [], [], [], []⟩ := by simpa using hn
  exact ⟨by simp, by simp, by simp, by simp⟩
theorem annalkeep_TreeDeep_true (F : Nat) [Big F] (t : DTree) (ok : okTree t) : annalkeep_TreeDeep F t = some true := by
  have hs := small_tree ok
  unfold annalkeep_TreeDeep tree_New
  rw [Option.bind_some, tree_Depth_good small_leaf tree_New_good, Option.bind_some]
  rw [show ((((0 : Nat) : Int) + 1, (0 : Int)).1 != 1 || (((0 : Nat) : Int) + 1, (0 : Int)).2 != 0) = false from rfl, cond_false]
  by_cases hc : chkT F t = 0
  rotate_left
  · rw [tree_All_bad hs hc, tree_Depth_bad hs hc, Option.bind_some, Option.bind_some]
    dsimp only
    rw [bne0_true hc, cond_true]
    simp
  obtain ⟨h, hg⟩ := chkT_zero.1 hc
  have h4 := good_fuel hg
  have hsm := good_small hg
  rw [tree_All_good hs hg, tree_Depth_good hs hg, Option.bind_some, Option.bind_some]
  dsimp only
  rw [show ((0 : Int) != 0) = false from rfl, cond_false]
  have hsort := (elems_sorted hg.chk h t.root 0 topS hg.ok).1
  have hmany : 2 ≤ h + 1 → 2 * 4 ^ h ≤ (elemsAt t.nodes h t.root).length := fun hh => by
    obtain ⟨k, rfl⟩ : ∃ k, h = k + 1 := ⟨h - 1, by omega⟩
    exact elems_root hg.chk hg.ok
  generalize elemsAt t.nodes h t.root = l at *
  have hleast : ((bif decide ((1 : Int) < (h : Int) + 1) then
            (iter (σ := Int × Int) (ρ := Int) (fun x => match x with
              | (x1, x2) =>
                bif decide (x2 < (IntKind.i64.wrap ((h : Int) + 1 - 1))) then
                    some (.inl (IntKind.i64.wrap (x1 * 4), IntKind.i64.wrap (x2 + 1)))
                  else
                    some (.inr x1)) F (2, 0)).bind fun z2 =>
            some z2
          else
            some 0 : Option (Int))) = some (if 1 ≤ h then 2 * 4 ^ h else 0) := by
    by_cases hh : 1 ≤ h
    · rw [show decide ((1 : Int) < (h : Int) + 1) = true from decide_eq_true (by omega), cond_true, if_pos hh]
      have hpow : ∀ k, k ≤ h → (2 * 4 ^ k : Nat) ≤ 3200 := fun k hk => by
        have h1 := hmany (by omega)
        have h2 : 4 ^ k ≤ 4 ^ h := Nat.pow_le_pow_right (by decide) hk
        omega
      rw [w64 (n := (h : Int) + 1 - 1) (by omega) (by omega), show (h : Int) + 1 - 1 = h by omega]
      rw [loop_run (fun k => ((2 * 4 ^ k : Int), (k : Int))) h (r := (2 * 4 ^ h : Int)) (s := ((2 : Int), (0 : Int))) rfl (by omega) ?hs ?he]
      case hs =>
        intro k hk
        have h1 := hpow (k + 1) (by omega)
        have h2 : ((2 * 4 ^ (k + 1) : Nat) : Int) = 2 * 4 ^ k * 4 := by push_cast; rw [Int.pow_succ, Int.mul_assoc]
        have h3 : (0 : Int) ≤ 2 * 4 ^ k := by
          have : (0 : Int) ≤ 4 ^ k := Int.pow_nonneg (by decide)
          omega
        dsimp only
        rw [show decide ((k : Int) < (h : Int)) = true from decide_eq_true (by omega), cond_true, w64 (by omega) (by omega), w64 (by omega) (by omega), ← h2]
        push_cast; rfl
      case he =>
        dsimp only
        rw [show decide ((h : Int) < (h : Int)) = false from decide_eq_false (by omega)]; rfl
      rfl
    · rw [show decide ((1 : Int) < (h : Int) + 1) = false from decide_eq_false (by omega), cond_false, if_neg hh]
  rw [hleast, Option.bind_some]
  have hloop : ∀ {ρ : Type} (f : Int → Option (Int ⊕ ((Unit) ⊕ Bool))), (∀ k : Nat, 1 ≤ k → k < l.length → f (k : Int) = some (.inl ((k : Int) + 1))) → (∀ k : Nat, l.length ≤ k → f (k : Int) = some (.inr (.inl ()))) → iter f F 1 = some (.inl ()) := fun f hf he => by
    refine loop_run (fun k => ((k + 1 : Nat) : Int)) (l.length - 1) rfl (by omega) (fun k hk => ?_) ?_
    · rw [hf (k + 1) (by omega) (by omega)]; rfl
    · exact he _ (by omega)
  rw [hloop (ρ := Unit) _ (fun k hk hkl => ?_) (fun k hk => ?_)]
  · rw [Option.bind_some]
    dsimp only
    have hle : (if 1 ≤ h then (2 * 4 ^ h : Int) else 0) ≤ (l.length : Int) := by
      by_cases hh : 1 ≤ h
      · rw [if_pos hh]
        have h1 := hmany (by omega)
        have h2 : ((2 * 4 ^ h : Nat) : Int) ≤ (l.length : Int) := by omega
        push_cast at h2
        exact h2
      · rw [if_neg hh]; omega
    rw [show decide ((1 : Int) ≤ (h : Int) + 1) = true from decide_eq_true (by omega), decide_eq_true hle]; rfl
  · obtain ⟨j, rfl⟩ : ∃ j, k = j + 1 := ⟨k - 1, by omega⟩
    have hj : l[j]? = some l[j] := List.getElem?_eq_getElem (by omega)
    have hj1 : l[j + 1]? = some l[j + 1] := List.getElem?_eq_getElem (by omega)
    have := pairwise_at hsort (Nat.lt_succ_self j) hj hj1
    unfold SpO at this
    rw [show decide (((j + 1 : Nat) : Int) < (l.length : Int)) = true from decide_eq_true (by omega), cond_true, w64 (by omega) (by omega), show (((j + 1 : Nat) : Int) - 1) = (j : Int) by omega, idx_nat', hj, Option.bind_some, elem_Spot_eq, Option.bind_some, idx_nat', hj1, Option.bind_some, elem_Spot_eq, Option.bind_some, key_CmpSpot_eq, Option.bind_some,
      decide_eq_false (by omega), cond_false, w64 (by omega) (by omega)]
  · rw [show decide ((k : Int) < (l.length : Int)) = false from decide_eq_false (by omega), cond_false]
end Go.Proofs.Ytoaopihihccfkaa
