/- Plain Lean: trees are read as runs are. Its conditions: none beyond what holds of every argument. -/
import Derived.Test.YtoaopihihccfkaaWPastSameF
import Derived.Test.YtoaopihihccfkaaPTreeL
import Derived.Test.YtoaopihihccfkaaPPastR
namespace Go.Proofs.Ytoaopihihccfkaa
set_option linter.unusedVariables false
set_option linter.unusedSimpArgs false
theorem annalkeep_PastSame_true (F : Nat) [Big F] (t : DTree) (k lo hi : DKey) (u : Int) (ok : okTree t) {P1 P2 P3 P4 : Prop} (k1 : P1) (k2 : P2) (k3 : P3) (k4 : P4) : annalkeep_PastSame F t k lo hi u = some true := by
  have hs := small_tree ok
  have hc1 : chkE (at1E 1 (ByteArray.mk #[97])) = 0 := at1_ok (by decide) (by decide) (by decide)
  obtain ⟨ho1, hp1⟩ := one_ok hc1
  obtain ⟨hg1, he1, hn1⟩ := one_leaf (l := [at1E 1 (ByteArray.mk #[97])]) (by simp) ho1 hp1
  have hr1 : chkR [at1E 1 (ByteArray.mk #[97])] = 0 := chkR_zero.2 ⟨by simp, ho1, List.pairwise_singleton _ _⟩
  have hk1 : chkK ⟨0, 0, 1⟩ = 0 := by decide
  have hat : atR [at1E 1 (ByteArray.mk #[97])] ⟨0, 0, 1⟩ 1 = some (at1E 1 (ByteArray.mk #[97])) := by
    unfold atR
    have : (((at1E 1 (ByteArray.mk #[97])).key == (⟨0, 0, 1⟩ : DKey)) && live (at1E 1 (ByteArray.mk #[97])) 1) = true := by decide
    rw [List.find?_cons, this]
  unfold annalkeep_PastSame
  rw [at1_eq, Option.bind_some, of_eq (by simp) ho1 hp1, Option.bind_some, past_At_good (good_smalls hg1) hg1, he1, Option.bind_some]
  have hv : atV [at1E 1 (ByteArray.mk #[97])] ⟨0, 0, 1⟩ 1 = at1E 1 (ByteArray.mk #[97]) := by unfold atV; rw [if_pos ⟨hr1, hk1⟩, hat]; rfl
  have hz : atE [at1E 1 (ByteArray.mk #[97])] ⟨0, 0, 1⟩ 1 = 0 := by unfold atE; rw [if_neg (by simpa using hr1), if_neg (by simpa using hk1), hat]; rfl
  rw [hv, hz]
  dsimp only
  rw [show ((0 : Int) != 0) = false from rfl, cond_false, Option.bind_some, show (!(at1E 1 (ByteArray.mk #[97]) == at1E 1 (ByteArray.mk #[97]))) = false by simp, Option.bind_some, cond_false]
  by_cases hc : chkT F t = 0
  rotate_left
  · rw [tree_All_bad hs hc, Option.bind_some]
    dsimp only
    rw [bne0_true hc, cond_true, Option.bind_some, cond_true]
  obtain ⟨h, hg⟩ := chkT_zero.1 hc
  rw [tree_All_good hs hg, Option.bind_some]
  dsimp only
  rw [show ((0 : Int) != 0) = false from rfl, cond_false, run_Check_eq, Option.bind_some, Option.bind_some]
  by_cases hr : chkR (elemsAt t.nodes h t.root) = 0
  rotate_left
  · rw [bne0_true hr, cond_true]
  have hlen := (chkR_zero.1 hr).len
  rw [bne0_false hr, cond_false, past_At_good hs hg, Option.bind_some, run_At_eq, Option.bind_some, past_Range_good hs hg, Option.bind_some, run_Range_eq, Option.bind_some]
  dsimp only
  have hl : (rangeR (elemsAt t.nodes h t.root) lo hi u).length ≤ 9223372036854775807 := by
    unfold rangeR
    split
    · have := List.length_filter_le (inR lo hi u) (elemsAt t.nodes h t.root); omega
    · simp
  rw [beq_self_eq_true, cond_true, beq_self_eq_true, cond_true, equal_refl hl, Option.bind_some, cond_true, beq_self_eq_true]
  rfl
end Go.Proofs.Ytoaopihihccfkaa
