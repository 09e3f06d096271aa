/- Plain Lean: the law ChangeChains. Its conditions: none. -/
import Derived.Test.YtiaoncjkfgebdaaWChangeChainsF
import Derived.Test.YtiaoncjkfgebdaaPChangeL
namespace Go.Proofs.Ytiaoncjkfgebdaa
set_option linter.unusedVariables false
set_option linter.unusedSimpArgs false
theorem chains {l : List DElem} {a b c : Int} {x y z : List DChange} (hx : BetwSpec l a b x) (hy : BetwSpec l b c y) (hz : BetwSpec l a c z) : ThenSpec x y z := by
  refine ⟨hz.ord, fun k => ?_, fun k => ?_⟩
  · rw [hx.at_, hy.at_]
    unfold dif
    split
    · trivial
    · split
      · trivial
      · simp [meets]
  · rw [hx.at_, hy.at_, hz.at_]
    unfold dif
    by_cases h1 : vAt l k a = vAt l k b
    · rw [if_pos h1, h1]
      split <;> rfl
    · rw [if_neg h1]
      by_cases h2 : vAt l k b = vAt l k c
      · rw [if_pos h2, ← h2, if_neg h1]; rfl
      · rw [if_neg h2]
        simp only [comp, key_of, fr_of, to_of]; rfl
theorem annalkeep_ChangeChains_true (F : Nat) [Big F] (l : List DElem) (a b c : Int) (_ : okAllW 56 okElem l) (_ : okInt .i64 a) (_ : okInt .i64 b) (_ : okInt .i64 c) : annalkeep_ChangeChains F l a b c = some true := by
  unfold annalkeep_ChangeChains
  have s1 : change_Between F [⟨⟨0, 0, 0⟩, 1, 3, ByteArray.mk #[97]⟩, ⟨⟨0, 0, 0⟩, 3, 0, ByteArray.mk #[98]⟩] 0 2 = some ([⟨⟨0, 0, 0⟩, false, true, ByteArray.mk #[], ByteArray.mk #[97]⟩], 0) := by
    rw [betw_is (by rfl) (betw_one (k := ⟨0, 0, 0⟩) (by simp) (by simp) 0 2)]; rfl
  have s2 : change_Between F [⟨⟨0, 0, 0⟩, 1, 3, ByteArray.mk #[97]⟩, ⟨⟨0, 0, 0⟩, 3, 0, ByteArray.mk #[98]⟩] 2 3 = some ([⟨⟨0, 0, 0⟩, true, true, ByteArray.mk #[97], ByteArray.mk #[98]⟩], 0) := by
    rw [betw_is (by rfl) (betw_one (k := ⟨0, 0, 0⟩) (by simp) (by simp) 2 3)]; rfl
  have s3 : change_Then F [⟨⟨0, 0, 0⟩, false, true, ByteArray.mk #[], ByteArray.mk #[97]⟩] [⟨⟨0, 0, 0⟩, true, true, ByteArray.mk #[97], ByteArray.mk #[98]⟩] = some ([⟨⟨0, 0, 0⟩, false, true, ByteArray.mk #[], ByteArray.mk #[98]⟩], 0) := by
    rw [then_is (good_one (by decide) (by decide) (by simp [FormC, e0]) (by decide)) (good_one (by decide) (by decide) (by simp [FormC, e0]) (by decide)) (then_one (by rfl) (by rfl)) (Nat.le_of_ble_eq_true (by rfl))]; rfl
  simp only [two_eq, Option.bind_some, s1, s2, s3]
  rw [eqChange_self _ (by simp)]
  simp only [Option.bind_some, bne_self_eq_false, cond_false, Bool.not_true]
  by_cases h : chkR l = 0
  · obtain ⟨x, hx, ex⟩ := betw_ok (F := F) h a b
    obtain ⟨y, hy, ey⟩ := betw_ok (F := F) h b c
    obtain ⟨z, hz, ez⟩ := betw_ok (F := F) h a c
    have hr := chkR_zero.1 h
    have gz := hz.good hr
    rw [ex, ey, ez]
    simp only [Option.bind_some]
    rw [then_is (hx.good hr) (hy.good hr) (chains hx hy hz) gz.len]
    simp only [Option.bind_some]
    rw [eqChange_self _ (by have := gz.len; omega)]; rfl
  · rw [betw_bad h, betw_bad h, betw_bad h]
    simp only [Option.bind_some]
    rw [bne0_true h]
    simp
end Go.Proofs.Ytiaoncjkfgebdaa
