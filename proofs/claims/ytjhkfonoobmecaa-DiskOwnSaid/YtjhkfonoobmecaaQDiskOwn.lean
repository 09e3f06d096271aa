/- Plain Lean: the law DiskOwn. Its conditions: none. -/
import Derived.Test.YtjhkfonoobmecaaWDiskOwnF
import Derived.Test.YtjhkfonoobmecaaPSteps
namespace Go.Proofs.Ytjhkfonoobmecaa
open Go.ChangeShapes
set_option linter.unusedVariables false
set_option linter.unusedSimpArgs false
variable {F : Nat} [Big F]
theorem fitsD_of {d : DDisk} (h1 : d.pages.length ≤ 100000) (h2 : d.writes.length ≤ 100000) : fitsD F d = true := by
  unfold fitsD
  rw [SameDisk_eq d d h1 h2 h1 h2, decide_eq_true h1, decide_eq_true h2, decide_eq_true rfl]; rfl
theorem fitsD_good {d : DDisk} (h : GoodD d) : fitsD F d = true := fitsD_of (Nat.le_trans h.np (by decide)) (Nat.le_trans h.nw (by decide))
theorem fitsD_none : fitsD F ⟨[], []⟩ = true := fitsD_of (Nat.zero_le _) (Nat.zero_le _)
theorem put_fits (d : DDisk) (i : Int) (s : ByteArray) : ∃ r, disk_Put F d i s = some r ∧ fitsD F r.1 = true := by
  rcases disk_Put_eq (F := F) d i s with ⟨h, e⟩ | ⟨_, c, _, e⟩
  · exact ⟨_, e, fitsD_good (good_put h)⟩
  · exact ⟨_, e, fitsD_none⟩
theorem sync_fits (d : DDisk) : ∃ r, disk_Sync F d = some r ∧ fitsD F r.1 = true := by
  by_cases g : GoodD d
  · exact ⟨_, disk_Sync_good g, fitsD_good (good_sync g)⟩
  · obtain ⟨c, _, e⟩ := disk_Sync_bad (F := F) g
    exact ⟨_, e, fitsD_none⟩
theorem crash_fits (d : DDisk) : ∃ r, disk_Crash F d [true] = some r ∧ fitsD F r.1 = true := by
  by_cases g : GoodD d
  · refine ⟨_, disk_Crash_good g [true] (by decide), fitsD_of ?_ (Nat.zero_le _)⟩
    show (apply _ _).length ≤ _
    rw [apply_length]; exact Nat.le_trans g.np (by decide)
  · obtain ⟨c, _, e⟩ := disk_Crash_bad (F := F) g [true]
    exact ⟨_, e, fitsD_none⟩
theorem recover_fits (d : DDisk) : ∃ r, undo_Recover F d = some r ∧ fitsD F r.1 = true := by
  by_cases hs : ∃ q t, SeqOk d q t
  · obtain ⟨q, t, h⟩ := hs
    exact ⟨_, recover_good h, fitsD_good (recovered h).ok.good⟩
  · obtain ⟨c, _, e⟩ := recover_bad (F := F) hs
    exact ⟨_, e, fitsD_none⟩
theorem steps_fits (d : DDisk) (h : ByteArray) (l : List DWrite) : ∃ r, undo_Steps F d h l = some r ∧ ∀ x ∈ r.1, fitsD F x = true := by
  by_cases hs : ∃ q t, StepsOk d h l q t
  · obtain ⟨q, t, s⟩ := hs
    refine ⟨_, steps_good s, fun x hx => ?_⟩
    have g := s.ground
    have hl := g.fit.len
    have f1 : ∀ ws : List DWrite, ws.length ≤ 100000 → fitsD F ⟨apply d.writes d.pages, ws⟩ = true := fun ws hw => fitsD_of (by show (apply _ _).length ≤ _; rw [g.len]; decide) hw
    have f2 : ∀ ws : List DWrite, ws.length ≤ 100000 → fitsD F ⟨P2 q (apply d.writes d.pages) l, ws⟩ = true := fun ws hw => fitsD_of (by show (P2 _ _ _).length ≤ _; rw [g.len2]; decide) hw
    have f3 : ∀ ws : List DWrite, ws.length ≤ 100000 → fitsD F ⟨P3 q (apply d.writes d.pages) l, ws⟩ = true := fun ws hw => fitsD_of (by show (P3 _ _ _).length ≤ _; rw [g.len3]; decide) hw
    have hx : x ∈ stepsR q (apply d.writes d.pages) h l := hx
    unfold stepsR stepsI at hx
    simp only [List.mem_append, List.mem_cons, List.mem_map, List.mem_range, List.not_mem_nil, or_false] at hx
    rcases hx with (rfl | (⟨k, hk, rfl⟩ | rfl | ⟨k, hk, rfl⟩ | rfl | rfl)) | rfl
    · exact f1 [] (Nat.zero_le _)
    · exact f1 _ (by rw [List.length_take]; have := frWs_length q (apply d.writes d.pages) l; omega)
    · exact f2 [] (Nat.zero_le _)
    · exact f2 _ (by rw [List.length_take]; omega)
    · exact f3 [] (Nat.zero_le _)
    · exact f3 _ (by show 1 ≤ 100000; decide)
    · refine fitsD_of ?_ (Nat.zero_le _)
      show (P4 _ _ _ _).length ≤ _
      unfold P4
      rw [apply_length, g.len3]; decide
  · obtain ⟨c, _, e⟩ := steps_bad (F := F) hs
    exact ⟨_, e, fun x hx => by cases hx⟩
theorem one_put : disk_Put F (DDisk.mk [ByteArray.mk #[97]] []) 0 (ByteArray.mk #[98]) = some (⟨[ByteArray.mk #[97]], [⟨0, ByteArray.mk #[98]⟩]⟩, 0) := by
  have hm : MayPut (DDisk.mk [ByteArray.mk #[97]] []) 0 (ByteArray.mk #[98]) := ⟨⟨by decide, by decide, fun s hs => by
    obtain rfl : s = ByteArray.mk #[97] := by simpa using hs
    decide, fun w hw => by cases hw⟩, by decide, by decide, by decide, by decide⟩
  exact put_ok' hm
theorem annalkeep_DiskOwn_true (F : Nat) [Big F] (p0 : DDisk) (p1 : Int) (p2 : ByteArray) (p3 : List DWrite) (k0 : okDisk p0) (_ : okInt .i64 p1) (_ : okStr p2) (_ : p2.size ≤ reachBytes) (_ : okAllW 24 okWrite p3) : annalkeep_DiskOwn F p0 p1 p2 p3 = some true := by
  have h1 : p0.pages.length * 16 ≤ reachBytes := k0.1.1
  have h2 : p0.writes.length * 24 ≤ reachBytes := k0.2.1
  unfold reachBytes at h1 h2
  obtain ⟨r1, e1, f1⟩ := put_fits (F := F) p0 p1 p2
  obtain ⟨r2, e2, f2⟩ := sync_fits (F := F) p0
  obtain ⟨r3, e3, f3⟩ := crash_fits (F := F) p0
  obtain ⟨r4, e4, f4⟩ := recover_fits (F := F) p0
  obtain ⟨r5, e5, f5⟩ := steps_fits (F := F) p0 p2 p3
  have hs : annalref_SameDisk F p0 p0 = some true := by
    unfold annalref_SameDisk
    rw [eqStrs _ _ (by omega), Option.bind_some, decide_eq_true rfl, cond_true, eqWrites _ _ (by omega), Option.bind_some, decide_eq_true rfl]; rfl
  have hall : (r1.1 :: r2.1 :: r3.1 :: r4.1 :: r5.1.take 9).all (fitsD F) = true := by
    rw [List.all_eq_true]
    intro x hx
    simp only [List.mem_cons] at hx
    rcases hx with rfl | rfl | rfl | rfl | hx
    · exact f1
    · exact f2
    · exact f3
    · exact f4
    · exact f5 x (List.mem_of_mem_take hx)
  unfold annalkeep_DiskOwn roomN
  rw [if_pos ⟨by omega, by unfold maxLen; omega⟩, Option.bind_some, if_pos ⟨by omega, by unfold maxLen; omega⟩, Option.bind_some, e1, Option.bind_some, e2, Option.bind_some, e3, Option.bind_some, e4, Option.bind_some, e5, Option.bind_some, one_put, Option.bind_some, hs, hall]
  rfl
end Go.Proofs.Ytjhkfonoobmecaa
