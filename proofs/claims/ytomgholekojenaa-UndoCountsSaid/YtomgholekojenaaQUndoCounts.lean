/- Plain Lean: the law UndoCounts. Its conditions: none. -/
import Derived.Test.YtomgholekojenaaWUndoCountsF
import Derived.Test.YtomgholekojenaaPStepsL
namespace Go.Proofs.Ytomgholekojenaa
open Go.ChangeShapes
set_option linter.unusedVariables false
set_option linter.unusedSimpArgs false

theorem drop_P4 (q : Nat) (P : List ByteArray) (h : ByteArray) : (P4 q P h []).drop 1 = P.drop 1 := by
  show (List.set P 0 (hB q h)).drop 1 = P.drop 1
  cases P <;> rfl
theorem annalkeep_UndoCounts_true (F : Nat) [Big F] (d : DDisk) (h : ByteArray) (l : List DWrite) (k0 : okDisk d) (k1 : okStr h) (k1_ : h.size ≤ reachBytes) (k2 : okAllW 24 okWrite l) : annalkeep_UndoCounts F d h l = some true := by
  unfold annalkeep_UndoCounts
  rw [show undo_Head F 3 (ByteArray.mk #[97, 98]) = some (hN 3 (ByteArray.mk #[97, 98]), 0) from head_eq 3 (by decide) (ByteArray.mk #[97, 98]) (by decide), obind, show makes 16 (201 : Int) = some () by decide, obind, idx_x0, obind]
  dsimp only
  show ((undo_Seq F (xH 3 (ByteArray.mk #[97, 98]))).bind _) = _
  rw [seq_good (xH_seq 3 (ByteArray.mk #[97, 98]) (by decide) (by decide)), obind]
  dsimp only
  rw [show seq (ByteArray.mk #[97, 98]) (ByteArray.mk #[97, 98]) = true from (seq_iff _ _).2 rfl, show ((0 : Int) != 0 || ((0 : Int) != 0 || ((((3 : Nat) : Int) != 3) || (!true)))) = false by decide, cfalse]
  by_cases hs : ∃ q t, StepsOk d h l q t
  · obtain ⟨q, t, s⟩ := hs
    have s0 : StepsOk d h [] q t := ⟨s.seq, ⟨s.fit.head, Nat.zero_le _, fun w hw => (by cases hw), fun w hw => (by cases hw), List.Pairwise.nil⟩, fun w hw => (by cases hw), s.more⟩
    have g := s.ground
    have g0 := s0.ground
    have hn := s.fit.len
    have hq := s.more
    have hlen := stepsR_length q (apply d.writes d.pages) h l
    have hlen0 : (stepsR q (apply d.writes d.pages) h []).length = 5 := stepsR_length q (apply d.writes d.pages) h []
    rw [seq_good s.seq, obind, steps_good s, obind, steps_good s0, obind]
    dsimp only
    rw [hlen, hlen0, show ((0 : Int) != 0 || ((0 : Int) != 0 || ((0 : Int) != 0 || ((((2 * l.length + 5 : Nat) : Int) == 0) || (((5 : Nat) : Int) == 0))))) = false by simp; omega, cfalse,
      wrap64 (n := ((2 * l.length + 5 : Nat) : Int) - 1) (by omega) (by omega), idx_last g _ hlen, obind, seq_good (seq_P4 g), obind, show IntKind.i64.wrap (((5 : Nat) : Int) - 1) = ((5 : Nat) : Int) - 1 from wrap64 (by decide) (by decide), idx_last g0 5 hlen0, obind, seq_good (seq_P4 g0), obind, disk_Sync_good s.seq.good, obind]
    dsimp only
    rw [show ((0 : Int) == 0) = true by decide, ctrue, ctrue, ctrue, wrap64 (n := (q : Int) + 1) (by omega) (by omega), show (((q + 1 : Nat) : Int) == (q : Int) + 1) = true by rw [beq_iff_eq]; omega, ctrue, show (((q + 1 : Nat) : Int) == ((q + 1 : Nat) : Int)) = true by simp, ctrue, show seq h h = true from (seq_iff h h).2 rfl, ctrue, ctrue, obind]
    dsimp only
    rw [lslice1 (by rw [g0.len4]; decide), obind, lslice1 (by rw [g.len]; decide), obind, drop_P4, eqStrs _ _ (by rw [List.length_drop, g.len]; decide), obind, decide_eq_true rfl]
    rfl
  · obtain ⟨c, h0, hc⟩ := steps_bad (F := F) hs
    have any : ∃ r, undo_Seq F d = some r := by
      by_cases hq : ∃ q t, SeqOk d q t
      · obtain ⟨q, t, hq⟩ := hq; exact ⟨_, seq_good hq⟩
      · obtain ⟨c, _, hc⟩ := seq_bad (F := F) hq; exact ⟨_, hc⟩
    have any2 : ∃ r, undo_Steps F d h [] = some r := by
      by_cases hq : ∃ q t, StepsOk d h [] q t
      · obtain ⟨q, t, hq⟩ := hq; exact ⟨_, steps_good hq⟩
      · obtain ⟨c, _, hc⟩ := steps_bad (F := F) hq; exact ⟨_, hc⟩
    obtain ⟨r, hr⟩ := any
    obtain ⟨r2, hr2⟩ := any2
    rw [hr, obind, hc, obind, hr2, obind]
    dsimp only
    rw [nz' h0, Bool.true_or, Bool.or_true, ctrue, Bool.true_or]
end Go.Proofs.Ytomgholekojenaa
