/- Plain Lean: the law RunNow. Its conditions: none. -/
import Derived.Test.YtiaoncjkfgebdaaWRunNowF
import Derived.Test.YtiaoncjkfgebdaaPRunL
namespace Go.Proofs.Ytiaoncjkfgebdaa
set_option linter.unusedVariables false
set_option linter.unusedSimpArgs false
theorem annalkeep_RunNow_true (F : Nat) [Big F] (l : List DElem) (k : DKey) (v : ByteArray) (t u : Int) (_ : okAllW 56 okElem l) (_ : okKey k) (_ : okStr v) (_ : v.size ≤ reachBytes) (ht : okInt .i64 t) (_ : okInt .i64 u) : annalkeep_RunNow F l k v t u = some true := by
  unfold annalkeep_RunNow
  have s1 : run_Cut F [⟨⟨0, 0, 1⟩, 1, 0, ByteArray.mk #[97]⟩] ⟨0, 0, 1⟩ 1 = some ([], 0) := by rw [run_Cut_eq]; rfl
  have s2 : run_Put F [] ⟨0, 0, 1⟩ (ByteArray.mk #[97]) 1 = some ([⟨⟨0, 0, 1⟩, 1, 0, ByteArray.mk #[97]⟩], 0) := by rw [run_Put_eq]; rfl
  simp only [at1_eq, Option.bind_some, s1, s2, run_Put_eq, run_Cut_eq, run_At_eq, run_Check_eq]
  rw [eqElem_self _ (by simp)]
  simp only [Option.bind_some, bne_self_eq_false, cond_false, Bool.not_true, List.length_nil, Bool.or_false, Int.ofNat_zero, Int.cast_ofNat_Int]
  have hw : t ≤ (if u < t then t else u) := by split <;> omega
  generalize (if u < t then t else u) = w at hw
  have cutpart : (bif (cutE l k t != 0) then some (((if cutE l k t = 0 then cutR l k t else []).length : Int) == 0) else
      ((bif (atE (if cutE l k t = 0 then cutR l k t else []) k w == 4) then some (chkR (if cutE l k t = 0 then cutR l k t else []) == 0) else some false : Option Bool)).bind fun z2 => some z2) = some true := by
    by_cases hc : cutE l k t = 0
    · obtain ⟨h1, h2, h3, h4, h5, h6, _⟩ := cut_ok hc
      rw [bne0_false hc, cond_false, if_pos hc, atE_run h2 h3, at_cut_self h1 h4 h5 h6 hw, chkR_run h2]; rfl
    · rw [bne0_true hc, cond_true, if_neg hc]; rfl
  by_cases hp : putE l k v t = 0
  · obtain ⟨h1, h2, h3, h4, h5, h6, h7, h8⟩ := put_ok hp
    rw [if_pos hp, hp, atE_run h2 h4, atV_run h2 h4, at_put_self h1 h5 h3 hw]
    simp only [Option.isNone_some, Option.getD_some, newE, seq_self]
    exact cutpart
  · rw [show (putE l k v t == 0) = false by rw [beq_eq_false_iff_ne]; exact hp, cond_false, Option.bind_some]
    exact cutpart
end Go.Proofs.Ytiaoncjkfgebdaa
