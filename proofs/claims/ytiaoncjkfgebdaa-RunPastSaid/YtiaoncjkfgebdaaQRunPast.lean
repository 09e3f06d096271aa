/- Plain Lean: the law RunPast. Its conditions: none. -/
import Derived.Test.YtiaoncjkfgebdaaWRunPastF
import Derived.Test.YtiaoncjkfgebdaaPRunL
namespace Go.Proofs.Ytiaoncjkfgebdaa
set_option linter.unusedVariables false
set_option linter.unusedSimpArgs false
theorem annalkeep_RunPast_true (F : Nat) [Big F] (l : List DElem) (k o : DKey) (v : ByteArray) (t u : Int) (_ : okAllW 56 okElem l) (_ : okKey k) (_ : okKey o) (_ : okStr v) (_ : v.size ≤ reachBytes) (ht : okInt .i64 t) (_ : okInt .i64 u) : annalkeep_RunPast F l k o v t u = some true := by
  unfold annalkeep_RunPast
  have s1 : run_Put F [⟨⟨0, 0, 1⟩, 1, 0, ByteArray.mk #[97]⟩] ⟨0, 0, 1⟩ (ByteArray.mk #[98]) 2 = some ([⟨⟨0, 0, 1⟩, 1, 2, ByteArray.mk #[97]⟩, ⟨⟨0, 0, 1⟩, 2, 0, ByteArray.mk #[98]⟩], 0) := by
    rw [run_Put_eq]; rfl
  simp only [at1_eq, Option.bind_some, s1]
  rw [eqElem_self _ (by simp)]
  simp only [Option.bind_some, bne_self_eq_false, cond_false, Bool.not_true, run_Put_eq, run_At_eq, run_Check_eq]
  by_cases hp : putE l k v t = 0
  · obtain ⟨h1, h2, h3, h4, h5, h6, h7, h8⟩ := put_ok hp
    rw [bne0_false hp, cond_false, if_pos hp, w64 (by omega) (by omega)]
    have hw : (if t - 1 < u then t - 1 else u) < t := by split <;> omega
    generalize (if t - 1 < u then t - 1 else u) = w at hw
    have hpast := at_put_past (l := l) (k := k) (v := v) hw
    have e1 : atE l k w = atE (putR l k v t) k w := by
      rw [atE_run h1 h4, atE_run h2 h4, hpast]; cases atR l k w <;> rfl
    have e2 : (atV l k w).val = (atV (putR l k v t) k w).val ∧ (atV l k w).made = (atV (putR l k v t) k w).made := by
      rw [atV_run h1 h4, atV_run h2 h4, hpast]
      cases atR l k w with
      | none => exact ⟨rfl, rfl⟩
      | some e => have := endE_val t e; exact ⟨this.1.symm, this.2.1.symm⟩
    rw [chkR_run h2, e1, e2.1, e2.2, seq_self]
    simp only [bne_self_eq_false, cond_false, Bool.not_true, Option.bind_some]
    by_cases ho : o = k
    · simp [ho]
    · obtain ⟨e3, e4⟩ := at_same h1 h2 (at_put_other h1 ho t (v := v) (t := t)).symm
      rw [e3, e4]
      simp
  · rw [bne0_true hp, cond_true, if_neg hp]; rfl
end Go.Proofs.Ytiaoncjkfgebdaa
