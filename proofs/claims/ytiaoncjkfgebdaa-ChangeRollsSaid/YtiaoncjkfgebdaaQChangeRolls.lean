/- Plain Lean: the law ChangeRolls. Its conditions: none. -/
import Derived.Test.YtiaoncjkfgebdaaWChangeRollsF
import Derived.Test.YtiaoncjkfgebdaaPDo
namespace Go.Proofs.Ytiaoncjkfgebdaa
set_option linter.unusedVariables false
set_option linter.unusedSimpArgs false
variable {F : Nat} [Big F]
def twoL : List DElem := [⟨⟨0, 0, 0⟩, 1, 3, ByteArray.mk #[97]⟩, ⟨⟨0, 0, 0⟩, 3, 0, ByteArray.mk #[98]⟩]
theorem rolls_do : ∃ m : List DElem, change_Do F twoL [⟨⟨0, 0, 0⟩, true, true, ByteArray.mk #[98], ByteArray.mk #[97]⟩] 5 = some (m, 0) ∧ m = [⟨⟨0, 0, 0⟩, 1, 3, ByteArray.mk #[97]⟩, ⟨⟨0, 0, 0⟩, 3, 5, ByteArray.mk #[98]⟩, ⟨⟨0, 0, 0⟩, 5, 0, ByteArray.mk #[97]⟩] := by
  refine ⟨_, ?_, rfl⟩
  rw [change_Do_is (chkR_zero.1 (by rfl)) (good_one (by decide) (by decide) (by simp [FormC, e0]) (by decide)) (by decide) (by decide) (by decide) (fun c hc => by rw [List.mem_singleton] at hc; subst hc; rfl)]
  rfl
theorem annalkeep_ChangeRolls_true (F : Nat) [Big F] (l : List DElem) (a t : Int) (k : DKey) (_ : okAllW 56 okElem l) (_ : okInt .i64 a) (ht : okInt .i64 t) (_ : okKey k) : annalkeep_ChangeRolls F l a t k = some true := by
  unfold annalkeep_ChangeRolls
  have s1 : change_Between F twoL 9 2 = some ([⟨⟨0, 0, 0⟩, true, true, ByteArray.mk #[98], ByteArray.mk #[97]⟩], 0) := by
    rw [betw_is (by rfl) (betw_one (k := ⟨0, 0, 0⟩) (by simp [twoL]) (by simp [twoL]) 9 2)]; rfl
  obtain ⟨m0, s2, hm0⟩ := rolls_do (F := F)
  subst hm0
  have s0 : annalkeep_two = some twoL := rfl
  have s3 : ((List.length [(⟨⟨0, 0, 0⟩, 1, 3, ByteArray.mk #[97]⟩ : DElem), ⟨⟨0, 0, 0⟩, 3, 5, ByteArray.mk #[98]⟩, ⟨⟨0, 0, 0⟩, 5, 0, ByteArray.mk #[97]⟩] : Int) != 3) = false := rfl
  have s4 : idx [(⟨⟨0, 0, 0⟩, 1, 3, ByteArray.mk #[97]⟩ : DElem), ⟨⟨0, 0, 0⟩, 3, 5, ByteArray.mk #[98]⟩, ⟨⟨0, 0, 0⟩, 5, 0, ByteArray.mk #[97]⟩] 2 = some ⟨⟨0, 0, 0⟩, 5, 0, ByteArray.mk #[97]⟩ := rfl
  simp only [s0, Option.bind_some, s1, s2, s3, s4, seq_self, bne_self_eq_false, cond_false, Bool.not_true]
  by_cases h : chkR l = 0
  · have hr := chkR_zero.1 h
    obtain ⟨c, hc, ec⟩ := betw_ok (F := F) h 2147483647 a
    have gc := hc.good hr
    rw [ec]
    simp only [Option.bind_some, bne_self_eq_false, cond_false]
    have hfr : ∀ x ∈ c, nowV l x.key = fr x := fun x hx => by
      have h1 : chAt c x.key = some x := (chAt_some hc.ord).2 ⟨hx, rfl⟩
      rw [hc.at_] at h1
      unfold dif at h1
      split at h1
      · cases h1
      · have := Option.some.inj h1
        rw [← this, fr_of, key_of]
        exact (nowV_at hr hr.last_le _).symm
    rcases change_Do_eq (F := F) l c t with h1 | h1 | ⟨_, _, ⟨_, h2⟩ | ⟨t0, t1, tl, ⟨⟨x, hx, hne⟩, _⟩ | ⟨_, _, h2 | ⟨m, hm, h2⟩⟩⟩⟩
    · exact absurd h h1.1
    · exact absurd (chkC_zero.2 gc) h1.2.1
    · rw [h2]; rfl
    · exact absurd (hfr x hx) hne
    · rw [h2]; rfl
    · rw [h2]
      simp only [Option.bind_some, bne_self_eq_false, cond_false]
      have hval : ∀ k, vAt m k t = vAt l k a := fun k => by
        rw [hm.late hr hc.ord tl t0 t1 (Int.le_refl _) k, hc.at_]
        unfold dif
        by_cases he : vAt l k 2147483647 = vAt l k a
        · rw [if_pos he]
          dsimp only
          rw [← he]; exact (nowV_at hr hr.last_le k).symm
        · rw [if_neg he]
          dsimp only
          rw [to_of]
      obtain ⟨e1, e2⟩ := at_val hr hm.run (hval k).symm
      rw [run_At_eq, run_At_eq, run_Check_eq]
      simp only [Option.bind_some]
      rw [e1, e2, seq_self, chkR_run hm.run]
      simp only [bne_self_eq_false, cond_false, Bool.not_true, Option.bind_some]
      rw [w64 (by omega) (by omega)]
      obtain ⟨d, hd, ed⟩ := betw_ok (F := F) (chkR_run hm.run) (if t - 1 < a then t - 1 else a) t
      rw [ed]
      simp only [Option.bind_some]
      by_cases hat : t ≤ a
      · rw [decide_eq_true hat]; rfl
      · rw [decide_eq_false hat, cond_false]
        have ha : (if t - 1 < a then t - 1 else a) = a := by rw [if_neg]; omega
        rw [ha] at hd
        have : d = [] := by
          refine ch_ext hd.ord List.Pairwise.nil fun k => ?_
          rw [hd.at_, hm.past (by omega) k, hval k]
          unfold dif
          rw [if_pos rfl]; rfl
        rw [this]; rfl
  · rw [betw_bad h]
    simp only [Option.bind_some]
    rw [bne0_true h]; rfl
end Go.Proofs.Ytiaoncjkfgebdaa
