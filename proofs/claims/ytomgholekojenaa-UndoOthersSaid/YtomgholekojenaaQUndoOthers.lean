/- Plain Lean: the law UndoOthers. Its conditions: none. -/
import Derived.Test.YtomgholekojenaaWUndoOthersF
import Derived.Test.YtomgholekojenaaPStepsL
namespace Go.Proofs.Ytomgholekojenaa
open Go.ChangeShapes
set_option linter.unusedVariables false
set_option linter.unusedSimpArgs false

theorem annalkeep_UndoOthers_true (F : Nat) [Big F] (d : DDisk) (h : ByteArray) (l : List DWrite) (i : Int) (k0 : okDisk d) (k1 : okStr h) (k1_ : h.size ≤ reachBytes) (k2 : okAllW 24 okWrite l) (k3 : okInt .i64 i) : annalkeep_UndoOthers F d h l i = some true := by
  unfold annalkeep_UndoOthers
  rw [show undo_Head F 3 (ByteArray.mk #[97, 98]) = some (hN 3 (ByteArray.mk #[97, 98]), 0) from head_eq 3 (by decide) (ByteArray.mk #[97, 98]) (by decide), obind, show makes 16 (201 : Int) = some () by decide, obind, idx_x0, obind]
  dsimp only
  have s1 := steps_x 3 (ByteArray.mk #[97, 98]) (ByteArray.mk #[]) 2 (ByteArray.mk #[98]) (by decide) (by decide) (by decide) (by decide) (by decide) (by decide)
  show ((undo_Steps F (xH 3 (ByteArray.mk #[97, 98])) (ByteArray.mk #[]) [⟨2, ByteArray.mk #[98]⟩]).bind _) = _
  rw [steps_good s1, obind]
  dsimp only
  have g1 := s1.ground
  have l1 : (stepsR 3 (apply (xH 3 (ByteArray.mk #[97, 98])).writes (xH 3 (ByteArray.mk #[97, 98])).pages) (ByteArray.mk #[]) [⟨2, ByteArray.mk #[98]⟩]).length = 7 := stepsR_length _ _ _ _
  rw [show ((0 : Int) != 0) = false by decide, cfalse, cfalse, l1, show (((7 : Nat) : Int) != 7) = false by decide, cfalse, idx_last g1 7 l1, obind]
  dsimp only
  rw [idx_pg (by decide) (by rw [g1.len4]; decide), obind, pg4_of g1 (w := ⟨2, ByteArray.mk #[98]⟩) (by simp), show seq (ByteArray.mk #[98]) (ByteArray.mk #[98]) = true from (seq_iff _ _).2 rfl, Bool.not_true, obind, cfalse]
  by_cases hs : ∃ q t, StepsOk d h l q t
  · obtain ⟨q, t, s⟩ := hs
    have g := s.ground
    have hn := s.fit.len
    have hlen := stepsR_length q (apply d.writes d.pages) h l
    obtain ⟨r, hr, hr1⟩ := within_eq (n := i) (m := 100) (by decide) (by decide) k3
    rw [steps_good s, obind]
    dsimp only
    rw [hlen, show ((0 : Int) != 0 || (((2 * l.length + 5 : Nat) : Int) == 0)) = false by simp; omega, cfalse, wrap64 (n := ((2 * l.length + 5 : Nat) : Int) - 1) (by omega) (by omega), idx_last g _ hlen, obind, hr, obind, wrap64 (n := 1 + (r : Int)) (by omega) (by omega)]
    dsimp only
    have hj : (1 : Int) + (r : Int) = ((1 + r : Nat) : Int) := by omega
    rw [hj]
    have hpg : idx (P4 q (apply d.writes d.pages) h l) ((1 + r : Nat) : Int) = some (pg (P4 q (apply d.writes d.pages) h l) (1 + r)) := by rw [idx_pg (by omega) (by rw [g.len4]; omega), Int.toNat_natCast]
    rw [loop_first (F := F) l (fun w => if w.page = ((1 + r : Nat) : Int) then some (.inr true) else none) (.inl ()) (by omega) rfl (fun k e hk => ?_) (by rw [decide_eq_false (by omega), cfalse])]
    · cases hf : l.findSome? (fun w => if w.page = ((1 + r : Nat) : Int) then some (.inr true : Unit ⊕ Bool) else none) with
      | some x =>
        obtain ⟨w, _, hx⟩ := List.exists_of_findSome?_eq_some hf
        split at hx
        · obtain rfl := Option.some.inj hx; rfl
        · cases hx
      | none =>
        rw [List.findSome?_eq_none_iff] at hf
        have hne : ∀ w ∈ l, w.page ≠ ((1 + r : Nat) : Int) := fun w hw e => by
          have := hf w hw
          rw [if_pos e] at this
          cases this
        rw [Option.getD_none, obind]
        dsimp only
        have hdl := s.seq.len
        have hdw := s.seq.good.nw
        rw [idx_pg (by omega) (by rw [hdl]; omega), obind, Int.toNat_natCast]
        rw [loop_fold (F := F) d.writes (fun x w => if w.page = ((1 + r : Nat) : Int) then w.text else x) (pg d.pages (1 + r)) (r := d.writes.foldl (fun x w => if w.page = ((1 + r : Nat) : Int) then w.text else x) (pg d.pages (1 + r))) (by omega) rfl (fun k e hk => ?_) (by dsimp only; rw [decide_eq_false (by omega), cfalse]), obind]
        · rw [fold_seen, hpg, obind, pg4_other g (1 + r) (by omega) (by omega) hne, seen_pg d s.seq.good _ (by rw [hdl]; omega)]
          rw [show seq (seen d (1 + r)) ((lastW d.writes ((1 + r : Nat) : Int)).getD (pg d.pages (1 + r))) = true from (seq_iff _ _).2 rfl, ctrue, obind]
          rfl
        · have hkl := (List.getElem?_eq_some_iff.1 hk).1
          dsimp only
          rw [decide_eq_true (by omega), ctrue, idx_nat, hk, obind]
          by_cases he : e.page = ((1 + r : Nat) : Int)
          · rw [show (e.page == ((1 + r : Nat) : Int)) = true by simpa using he, ctrue, obind, wrap64 (by omega) (by omega), if_pos he]
          · rw [show (e.page == ((1 + r : Nat) : Int)) = false by simpa using he, cfalse, obind, wrap64 (by omega) (by omega), if_neg he]
    · have hkl := (List.getElem?_eq_some_iff.1 hk).1
      rw [decide_eq_true (by omega), ctrue, idx_nat, hk, obind]
      by_cases he : e.page = ((1 + r : Nat) : Int)
      · have hm := List.mem_of_getElem? hk
        have hp4 := pg4_of g hm
        rw [he, Int.toNat_natCast] at hp4
        rw [show (e.page == ((1 + r : Nat) : Int)) = true by simpa using he, ctrue, hpg, obind, if_pos he, hp4, (seq_iff _ _).2 rfl]
      · rw [show (e.page == ((1 + r : Nat) : Int)) = false by simpa using he, cfalse, if_neg he, wrap64 (by omega) (by omega)]
  · obtain ⟨c, h0, hc⟩ := steps_bad (F := F) hs
    rw [hc, obind]
    dsimp only
    rw [nz' h0]
    rfl
end Go.Proofs.Ytomgholekojenaa
