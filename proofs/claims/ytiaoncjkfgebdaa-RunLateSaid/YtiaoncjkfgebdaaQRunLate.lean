/- Plain Lean: the law RunLate. Its conditions: none. -/
import Derived.Test.YtiaoncjkfgebdaaWRunLateF
import Derived.Test.YtiaoncjkfgebdaaPRunL
namespace Go.Proofs.Ytiaoncjkfgebdaa
set_option linter.unusedVariables false
set_option linter.unusedSimpArgs false
theorem annalkeep_RunLate_true (F : Nat) [Big F] (l : List DElem) (k : DKey) (v : ByteArray) (t : Int) (_ : okAllW 56 okElem l) (_ : okKey k) (_ : okStr v) (_ : v.size ≤ reachBytes) (ht : okInt .i64 t) : annalkeep_RunLate F l k v t = some true := by
  unfold annalkeep_RunLate
  have s0 : annalkeep_two = some [⟨⟨0, 0, 0⟩, 1, 3, ByteArray.mk #[97]⟩, ⟨⟨0, 0, 0⟩, 3, 0, ByteArray.mk #[98]⟩] := rfl
  have s1 : run_Put F [⟨⟨0, 0, 0⟩, 1, 3, ByteArray.mk #[97]⟩, ⟨⟨0, 0, 0⟩, 3, 0, ByteArray.mk #[98]⟩] ⟨0, 0, 0⟩ (ByteArray.mk #[99]) 2 = some ([], 9) := by rw [run_Put_eq]; rfl
  have s2 : run_Put F [⟨⟨0, 0, 0⟩, 1, 3, ByteArray.mk #[97]⟩, ⟨⟨0, 0, 0⟩, 3, 0, ByteArray.mk #[98]⟩] ⟨0, 0, 0⟩ (ByteArray.mk #[99]) 3 = some ([⟨⟨0, 0, 0⟩, 1, 3, ByteArray.mk #[97]⟩, ⟨⟨0, 0, 0⟩, 3, 0, ByteArray.mk #[99]⟩], 0) := by rw [run_Put_eq]; rfl
  have s3 : idx [(⟨⟨0, 0, 0⟩, 1, 3, ByteArray.mk #[97]⟩ : DElem), ⟨⟨0, 0, 0⟩, 3, 0, ByteArray.mk #[99]⟩] 1 = some ⟨⟨0, 0, 0⟩, 3, 0, ByteArray.mk #[99]⟩ := rfl
  simp only [s0, Option.bind_some, s1, s2, s3, seq_self]
  have s4 : ((List.length [(⟨⟨0, 0, 0⟩, 1, 3, ByteArray.mk #[97]⟩ : DElem), ⟨⟨0, 0, 0⟩, 3, 0, ByteArray.mk #[99]⟩] : Int) != 2) = false := rfl
  simp only [Option.bind_some, bne_self_eq_false, cond_false, Bool.not_true, s4, run_Put_eq, run_Cut_eq, run_Last_eq]
  have cutpart : chkR l = 0 → (bif (cutE l k t != 0) then some (((if cutE l k t = 0 then cutR l k t else []).length : Int) == 0) else
      some ((chkR (if cutE l k t = 0 then cutR l k t else []) == 0) && ((decide ((if chkR (if cutE l k t = 0 then cutR l k t else []) = 0 then lastL (if cutE l k t = 0 then cutR l k t else []) else 0) ≤ t)) && (cutE (if cutE l k t = 0 then cutR l k t else []) k t == 4)))) = some true := fun hl => by
    by_cases hc : cutE l k t = 0
    · obtain ⟨h1, h2, h3, h4, h5, h6, _⟩ := cut_ok hc
      have hlast := last_cut (k := k) h1 h4 h5 h6
      have hnow : nowR (cutR l k t) k = none := by
        rw [← nowR_at h2 hlast]; exact at_cut_self h1 h4 h5 h6 (Int.le_refl _)
      have hce : cutE (cutR l k t) k t = 4 := by
        unfold cutE
        rw [if_neg (by simpa using chkR_run h2), if_neg (by simpa using h3), if_neg (by omega), hnow]; rfl
      rw [bne0_false hc, cond_false, if_pos hc, chkR_run h2, if_pos rfl, hce, decide_eq_true hlast]; rfl
    · rw [bne0_true hc, cond_true, if_neg hc]; rfl
  by_cases hl : chkR l = 0
  · rw [bne0_false hl, cond_false, if_pos hl]
    by_cases hp : putE l k v t = 0
    · obtain ⟨h1, h2, h3, h4, h5, h6, h7, h8⟩ := put_ok hp
      have hlast := last_put h1 h5 h3
      have hpe : putE (putR l k v t) k v (IntKind.i64.wrap (t - 1)) = 9 ∨ putE (putR l k v t) k v (IntKind.i64.wrap (t - 1)) = 9 := by
        left
        rw [w64 (by omega) (by omega)]
        unfold putE
        rw [if_neg (by simpa using chkR_run h2)]
        by_cases ht1 : 1 < t
        · rw [if_neg (by simpa using chkE_new h4 (by omega) (by omega) h8), if_pos (by omega)]
        · have : chkE (newE k v (t - 1)) = 9 := by
            unfold chkE newE
            dsimp only
            rw [if_neg (by simpa using h4), if_pos (by omega)]
          rw [if_pos (by rw [this]; decide), this]
      rw [if_pos hp, hp, chkR_run h2, if_pos rfl, hlast, or_self_iff.1 hpe, decide_eq_false (show ¬ t < lastL l by omega)]
      simp only [bne_self_eq_false, Bool.or_false, cond_false, beq_self_eq_true, cond_true, Option.bind_some]
      exact cutpart hl
    · rw [show (putE l k v t == 0) = false by rw [beq_eq_false_iff_ne]; exact hp, cond_false, Option.bind_some]
      exact cutpart hl
  · rw [bne0_true hl, cond_true, if_neg hl]; rfl
end Go.Proofs.Ytiaoncjkfgebdaa
