/- Plain Lean: the law RunPieces. Its conditions: none. -/
import Derived.Test.YtiaoncjkfgebdaaWRunPiecesF
import Derived.Test.YtiaoncjkfgebdaaPRunL
import Derived.Test.YtiaoncjkfgebdaaPDel
namespace Go.Proofs.Ytiaoncjkfgebdaa
set_option linter.unusedVariables false
set_option linter.unusedSimpArgs false
theorem annalkeep_RunPieces_true (F : Nat) [Big F] (l : List DElem) (i j : Int) (k : DKey) (_ : okAllW 56 okElem l) (hi : okInt .i64 i) (hj : okInt .i64 j) (_ : okKey k) : annalkeep_RunPieces F l i j k = some true := by
  unfold annalkeep_RunPieces
  simp only [at1_eq, Option.bind_some, run_Check_eq]
  rw [show chkR [⟨⟨0, 0, 1⟩, 1, 0, ByteArray.mk #[97]⟩, ⟨⟨0, 0, 1⟩, 1, 0, ByteArray.mk #[98]⟩] = 3 by decide, show chkR [] = 0 by decide]
  simp only [bne_self_eq_false, cond_false, Option.bind_some]
  by_cases hl : chkR l = 0
  · have hr := chkR_zero.1 hl
    have hlen := hr.len
    rw [bne0_false hl, cond_false, w64 (by omega) (by omega)]
    obtain ⟨a, a1, a2⟩ := within_eq (n := i) (m := (l.length : Int) + 1) (by omega) (by omega) hi
    obtain ⟨b, b1, b2⟩ := within_eq (n := j) (m := (l.length : Int) + 1) (by omega) (by omega) hj
    rw [a1, b1, grow_ok (by simp; omega) (by simp; omega)]
    simp only [Option.bind_some, List.nil_append]
    have fin : ∀ z3 : List DElem, Run z3 → ((lslice l (if (b : Int) < (a : Int) then (b : Int) else (a : Int)) (if (a : Int) < (b : Int) then (b : Int) else (a : Int))).bind fun s4 => (run_Last F s4).bind fun r10 => (run_Last F l).bind fun r11 =>
        ((bif r10.2 == 0 then bif r11.2 == 0 then bif decide (r10.1 ≤ r11.1) then some (chkR z3 == 0) else some false else some false else some false).bind fun z9 => some z9)) = some true := fun z3 h3 => by
      rw [lslice_ok (by split <;> omega) (by split <;> split <;> omega) (by split <;> omega), Option.bind_some]
      generalize hs : List.drop _ (List.take _ l) = s
      have hsub : s.Sublist l := by rw [← hs]; exact (List.drop_sublist _ _).trans (List.take_sublist _ _)
      have hrs := hr.sub hsub
      have hle : lastL s ≤ lastL l := lastL_le.2 ⟨lastL_nonneg l, fun e he => le_lastL (hsub.subset he)⟩
      rw [run_Last_eq, run_Last_eq, chkR_run hrs, chkR_run hr, chkR_run h3]
      simp only [Option.bind_some, if_true]
      rw [decide_eq_true hle]; rfl
    have hq : (fun x : DElem => x.key == k) = fun x => !(fun x : DElem => !(x.key == k)) x := by funext x; simp
    rw [loop_index l (fun x => x.key == k) (by omega) (fun n x hx => ?_) (by simp)]
    · rw [Option.bind_some]
      cases hf : l.findIdx? (fun x => x.key == k) with
      | none =>
        dsimp only
        rw [Option.bind_some]
        exact fin l hr
      | some n =>
        dsimp only
        rw [Option.bind_some, show ((n : Int) == -1) = false by rw [beq_eq_false_iff_ne]; omega, cond_false]
        rw [hq] at hf
        obtain ⟨hn, h0⟩ := findIdx_take hf
        rw [w64 (n := (n : Int) + 1) (by omega) (by omega)]
        obtain ⟨A, m, e1, e2, e3, e4⟩ := loop_pack (F := F) (f := fun x => match x with
              | (x2, x3, x4) =>
                bif decide (x4 < (x2.length : Int)) then
                    (
                      (idx x2 x4).bind fun e2 =>
                        bif (!(e2.key == k)) then
                          (idx x2 x3).bind fun e3 =>
                          some ((x2.set x3.toNat e2), IntKind.i64.wrap (x3 + 1))
                        else
                          some (x2, x3) : Option ((List DElem) × Int)).bind fun z => match z with
                      | (z7, z8) =>
                        some (.inl (z7, z8, IntKind.i64.wrap (x4 + 1)))
                  else
                    some (.inr (x2, x3))) l (fun x => !(x.key == k)) n hn (by omega) h0 (fun A i j x hA hij hx => by
          have hjl := (List.getElem?_eq_some_iff.1 hx).1
          dsimp only
          rw [decide_eq_true (by omega), cond_true, idx_nat', idx_nat', hx, Option.bind_some, List.getElem?_eq_getElem (show i < A.length by omega), Option.bind_some, w64 (by omega) (by omega), w64 (by omega) (by omega), Int.toNat_natCast]
          cases x.key == k <;> rfl) (fun A i hA => by
          dsimp only
          rw [decide_eq_false (by omega)]; rfl)
        · refine Eq.trans (congrArg (fun z => Option.bind (Option.bind z _) _) e1) ?_
          rw [Option.bind_some]
          dsimp only
          rw [lslice_ok (by omega) (by omega) (by omega), Option.bind_some, Int.toNat_natCast, lslice_to (by rw [over_length _ _ _ (by simp; omega)]; omega), Option.bind_some, Option.bind_some, take_over _ _ _ (by omega), e4]
          exact fin _ (hr.sub List.filter_sublist)
    · have hnl := (List.getElem?_eq_some_iff.1 hx).1
      rw [decide_eq_true (by omega), cond_true, idx_nat', hx, Option.bind_some, w64 (by omega) (by omega)]
      cases x.key == k <;> rfl
  · rw [bne0_true hl]; rfl
end Go.Proofs.Ytiaoncjkfgebdaa
