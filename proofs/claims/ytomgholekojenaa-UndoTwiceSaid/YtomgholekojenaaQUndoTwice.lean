/- Plain Lean: the law UndoTwice. Its conditions: none. -/
import Derived.Test.YtomgholekojenaaWUndoTwiceF
import Derived.Test.YtomgholekojenaaPUndoT
namespace Go.Proofs.Ytomgholekojenaa
open Go.ChangeShapes
set_option linter.unusedVariables false
set_option linter.unusedSimpArgs false

theorem annalkeep_UndoTwice_true (F : Nat) [Big F] (d : DDisk) (kept : List Bool) (k0 : okDisk d) (k1 : okAllW 1 (fun _ => True) kept) : annalkeep_UndoTwice F d kept = some true := by
  have hb1 : kept.length ≤ 140737488351232 := by
    have := k1.1
    unfold reachBytes at this; omega
  unfold annalkeep_UndoTwice
  rw [show makes 16 (201 : Int) = some () by decide, obind]
  show ((undo_Recover F x0).bind _) = _
  rw [recover_none good_x0 x0_len (show headF (ofL []) = none from headF_empty), obind]
  dsimp only
  rw [show ((11 : Int) != 11) = false by decide, cfalse]
  by_cases hg : GoodD d
  · rw [disk_Crash_good hg kept (by omega), obind]
    dsimp only
    rw [show ((0 : Int) != 0) = false by decide, cfalse]
    generalize hc : (⟨apply (keptW d.writes kept) d.pages, []⟩ : DDisk) = c
    by_cases hs : ∃ q t, SeqOk c q t
    · obtain ⟨q, t, hq⟩ := hs
      have hd := recovered hq
      rw [recover_good hq, obind]
      dsimp only
      rw [show ((0 : Int) != 0) = false by decide, cfalse, recover_done hd, obind]
      dsimp only
      have hl := hd.ok.len
      rw [show ((0 : Int) == 0) = true by decide, ctrue, SameDisk_eq _ _ (by rw [hl]; decide) (Nat.zero_le _) (by rw [hl]; decide) (Nat.zero_le _), obind, decide_eq_true rfl, obind]
    · obtain ⟨e, h0, he⟩ := recover_bad (F := F) hs
      rw [he, obind]
      dsimp only
      rw [nz' h0, ctrue, SameDisk_eq _ _ (by decide) (by decide) (by decide) (by decide), obind, decide_eq_true rfl]
  · obtain ⟨e, h0, he⟩ := disk_Crash_bad (F := F) hg kept
    rw [he, obind]
    dsimp only
    rw [nz' h0, ctrue]
end Go.Proofs.Ytomgholekojenaa
