/- Plain Lean: the law ChangeNone. Its conditions: none. -/
import Derived.Test.YtiaoncjkfgebdaaWChangeNoneF
import Derived.Test.YtiaoncjkfgebdaaPChangeL
namespace Go.Proofs.Ytiaoncjkfgebdaa
set_option linter.unusedVariables false
set_option linter.unusedSimpArgs false
theorem annalkeep_ChangeNone_true (F : Nat) [Big F] (l : List DElem) (a b : Int) (_ : okAllW 56 okElem l) (_ : okInt .i64 a) (_ : okInt .i64 b) : annalkeep_ChangeNone F l a b = some true := by
  unfold annalkeep_ChangeNone
  have s1 : change_Between F [⟨⟨0, 0, 0⟩, 1, 3, ByteArray.mk #[97]⟩, ⟨⟨0, 0, 0⟩, 3, 0, ByteArray.mk #[98]⟩] 2 3 = some ([⟨⟨0, 0, 0⟩, true, true, ByteArray.mk #[97], ByteArray.mk #[98]⟩], 0) := by
    rw [betw_is (by rfl) (betw_one (k := ⟨0, 0, 0⟩) (by simp) (by simp) 2 3)]; rfl
  simp only [two_eq, Option.bind_some, s1]
  rw [eqChange_self _ (by simp)]
  simp only [Option.bind_some, bne_self_eq_false, cond_false, Bool.not_true]
  by_cases h : chkR l = 0
  · obtain ⟨x, hx, ex⟩ := betw_ok (F := F) h a a
    obtain ⟨y, hy, ey⟩ := betw_ok (F := F) h a b
    have hr := chkR_zero.1 h
    have gy := hy.good hr
    have gz := gy.back
    rw [ex, ey, betw_is h (betw_back hy), betw_same hx]
    simp only [Option.bind_some, change_Back_eq, chkC_zero.2 gy, if_pos, chkC_zero.2 gz, back_back]
    rw [eqChange_self _ (by have := gz.len; omega), eqChange_self _ (by have := gy.len; omega)]
    rfl
  · rw [betw_bad h, betw_bad h, betw_bad h]
    simp only [Option.bind_some]
    rw [bne0_true h]
    simp
end Go.Proofs.Ytiaoncjkfgebdaa
