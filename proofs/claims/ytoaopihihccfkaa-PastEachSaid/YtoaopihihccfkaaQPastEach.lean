/- Plain Lean: each record is read at the time at which it was made. Its conditions: none beyond what holds of every argument. -/
import Derived.Test.YtoaopihihccfkaaWPastEachF
import Derived.Test.YtoaopihihccfkaaPTreeL
import Derived.Test.YtoaopihihccfkaaPPastA
namespace Go.Proofs.Ytoaopihihccfkaa
set_option linter.unusedVariables false
set_option linter.unusedSimpArgs false
theorem annalkeep_PastEach_true (F : Nat) [Big F] (t : DTree) (n : Int) (ok : okTree t) {P : Prop} (k1 : P) : annalkeep_PastEach F t n = some true := by
  have hs := small_tree ok
  have hc1 : chkE ⟨⟨0, 0, 1⟩, 1, 3, ByteArray.mk #[]⟩ = 0 := by decide
  obtain ⟨ho1, hp1⟩ := one_ok hc1
  obtain ⟨hg1, he1, hn1⟩ := one_leaf (l := [⟨⟨0, 0, 1⟩, 1, 3, ByteArray.mk #[]⟩]) (by simp) ho1 hp1
  have hr1 : chkR [⟨⟨0, 0, 1⟩, 1, 3, ByteArray.mk #[]⟩] = 0 := chkR_zero.2 ⟨by simp, ho1, List.pairwise_singleton _ _⟩
  have hk1 : chkK ⟨0, 0, 1⟩ = 0 := by decide
  have hat : atR [⟨⟨0, 0, 1⟩, 1, 3, ByteArray.mk #[]⟩] ⟨0, 0, 1⟩ 2 = some ⟨⟨0, 0, 1⟩, 1, 3, ByteArray.mk #[]⟩ := by
    unfold atR
    have : (((⟨⟨0, 0, 1⟩, 1, 3, ByteArray.mk #[]⟩ : DElem).key == (⟨0, 0, 1⟩ : DKey)) && live ⟨⟨0, 0, 1⟩, 1, 3, ByteArray.mk #[]⟩ 2) = true := by decide
    rw [List.find?_cons, this]
  have hv : atV [⟨⟨0, 0, 1⟩, 1, 3, ByteArray.mk #[]⟩] ⟨0, 0, 1⟩ 2 = ⟨⟨0, 0, 1⟩, 1, 3, ByteArray.mk #[]⟩ := by unfold atV; rw [if_pos ⟨hr1, hk1⟩, hat]; rfl
  have hz : atE [⟨⟨0, 0, 1⟩, 1, 3, ByteArray.mk #[]⟩] ⟨0, 0, 1⟩ 2 = 0 := by unfold atE; rw [if_neg (by simpa using hr1), if_neg (by simpa using hk1), hat]; rfl
  unfold annalkeep_PastEach
  rw [of_eq (by simp) ho1 hp1, Option.bind_some, past_At_good (good_smalls hg1) hg1, he1, Option.bind_some, hv, hz]
  rw [show (((⟨⟨⟨0, 0, 1⟩, 1, 3, ByteArray.mk #[]⟩, 0⟩ : DElem × Int).2 != 0) || (!((⟨⟨⟨0, 0, 1⟩, 1, 3, ByteArray.mk #[]⟩, 0⟩ : DElem × Int).1 == ⟨⟨0, 0, 1⟩, 1, 3, ByteArray.mk #[]⟩))) = false by simp, cond_false]
  by_cases hc : chkT F t = 0
  rotate_left
  · rw [tree_All_bad hs hc, Option.bind_some]
    dsimp only
    rw [bne0_true hc, cond_true, Option.bind_some, cond_true]
  obtain ⟨h, hg⟩ := chkT_zero.1 hc
  have hlen := good_small hg
  rw [tree_All_good hs hg, Option.bind_some]
  dsimp only
  rw [show ((0 : Int) != 0) = false from rfl, cond_false, past_Check_good hs hg, Option.bind_some]
  by_cases hr : chkR (elemsAt t.nodes h t.root) = 0
  rotate_left
  · rw [bne0_true hr, cond_true, Option.bind_some, cond_true]
  rw [bne0_false hr, cond_false, Option.bind_some]
  have hpa : ∀ k u, past_At F t k u = some (atV (elemsAt t.nodes h t.root) k u, atE (elemsAt t.nodes h t.root) k u) := fun k u => past_At_good hs hg k u
  have hrun := chkR_zero.1 hr
  generalize elemsAt t.nodes h t.root = l at *
  by_cases hl : l.length = 0
  · rw [hl]; rfl
  rw [show (((l.length : Nat) : Int) == 0) = false by simpa using hl, cond_false]
  obtain ⟨r, hr, hrl⟩ := within_nat (n := n) (m := (l.length : Int)) (by omega) (by omega)
  have hk : l[r]? = some l[r] := List.getElem?_eq_getElem (by omega)
  have hmem := List.mem_of_getElem? hk
  rw [hr, Option.bind_some, idx_nat', hk, Option.bind_some, hpa, Option.bind_some, hpa, Option.bind_some]
  generalize l[r] = y at *
  obtain ⟨hkk, hm1, hm2, hgone, _⟩ := chkE_ok (hrun.ok y hmem)
  have hlive : live y y.made = true := by
    unfold live
    rcases hgone with h0 | h0
    · simp [h0]
    · simp [h0.1]
  have h1 : atR l y.key y.made = some y := (atR_some hrun.ord).2 ⟨hmem, rfl, hlive⟩
  have hv1 : atV l y.key y.made = y := by unfold atV; rw [if_pos ⟨chkR_zero.2 hrun, hkk⟩, h1]; rfl
  have hz1 : atE l y.key y.made = 0 := by unfold atE; rw [if_neg (by simpa using chkR_zero.2 hrun), if_neg (by simpa using hkk), h1]; rfl
  rw [hv1, hz1]
  dsimp only
  by_cases hg0 : y.gone = 0
  · simp [hg0]
  have hlast : (atE l y.key y.gone != 0 || !(atV l y.key y.gone == y)) = true := by
    cases ha : atR l y.key y.gone with
    | none =>
      have : atE l y.key y.gone = 4 := by unfold atE; rw [if_neg (by simpa using chkR_zero.2 hrun), if_neg (by simpa using hkk), ha]; rfl
      rw [this]; rfl
    | some x =>
      have hx := (atR_some hrun.ord).1 ha
      have hv2 : atV l y.key y.gone = x := by unfold atV; rw [if_pos ⟨chkR_zero.2 hrun, hkk⟩, ha]; rfl
      have hne : x ≠ y := by
        rintro rfl
        have := hx.2.2
        unfold live at this
        simp [hg0] at this
      rw [hv2, Bool.or_eq_true]
      right
      simpa using hne
  rw [hlast]
  simp
end Go.Proofs.Ytoaopihihccfkaa
