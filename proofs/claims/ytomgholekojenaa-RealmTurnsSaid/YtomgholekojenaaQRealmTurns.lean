/- Plain Lean: the law RealmTurns. Its conditions: none. -/
import Derived.Test.YtomgholekojenaaWRealmTurnsF
import Derived.Test.YtomgholekojenaaPBook
import Derived.Test.YtomgholekojenaaOpenA
namespace Go.Proofs.Ytomgholekojenaa
set_option linter.unusedVariables false
set_option linter.unusedSimpArgs false

theorem annalkeep_RealmTurns_true (F : Nat) [Big F] (b : DBook) (p : Int) (k0 : okBook b) (k1 : okInt .i64 p) : annalkeep_RealmTurns F b p = some true := by
  unfold annalkeep_RealmTurns annalkeep_book
  rw [Option.bind_some]
  show ((realm_Down F bk 0).bind _) = _
  rw [realm_Down_eq, Option.bind_some, realm_Put_eq, Option.bind_some, show ((downB bk 0).2 != 0 || (putB (downB bk 0).1 ⟨0, 0, 0⟩ (ByteArray.mk #[97]) 1).2 != 10) = false by decide, cond_false, realm_Down_eq, Option.bind_some]
  by_cases h : (downB b p).2 = 0
  · rw [bne0_false h, cond_false, realm_Up_eq, Option.bind_some, realm_Up_eq, Option.bind_some]
    have h' := h
    unfold downB at h
    split at h
    · rename_i h1; exact absurd h h1
    · rename_i h1
      split at h
      · cases h
      · rename_i h2
        have hl : lookB b p = 0 := by simpa using h1
        have hr : roleAt b p = 1 := by simpa using h2
        obtain ⟨hb, p0, p1⟩ := lookB_zero.1 hl
        have hd : downB b p = (⟨b.run, b.roles.set p.toNat 2, b.fed.set p.toNat (lastL (atP b.run p))⟩, 0) := by
          unfold downB; rw [if_neg h1, if_neg h2]
        have hf0 : fedAt b p = 0 := (hb.role p p0 p1).2.2.2.2 (by rw [hr]; decide)
        rw [hd]
        dsimp only
        have hB : Book ⟨b.run, b.roles.set p.toNat 2, b.fed.set p.toNat (lastL (atP b.run p))⟩ := by
          refine ⟨hb.run, fun q q0 q1 => ?_, fun e he => ?_⟩
          · rw [role_set b p q 2 _ _ p0 p1 q0 q1]
            have hfs : fedAt ⟨b.run, b.roles.set p.toNat 2, b.fed.set p.toNat (lastL (atP b.run p))⟩ q = if p = q then lastL (atP b.run p) else fedAt b q := fed_set b p q _ _ _ p0 p1 q0 q1
            rw [hfs]
            by_cases hq : p = q
            · rw [if_pos hq, if_pos hq]
              have := lastL_nonneg (atP b.run p)
              have := (hb.run.atP p).last_le
              omega
            · rw [if_neg hq, if_neg hq]; exact hb.role q q0 q1
          · obtain ⟨q0, q1⟩ := pfs_run hb.run he
            rw [role_set b p _ 2 _ _ p0 p1 q0 q1]
            have hfs : fedAt ⟨b.run, b.roles.set p.toNat 2, b.fed.set p.toNat (lastL (atP b.run p))⟩ e.key.pfs = if p = e.key.pfs then lastL (atP b.run p) else fedAt b e.key.pfs := fed_set b p _ _ _ _ p0 p1 q0 q1
            rw [hfs]
            by_cases hq : p = e.key.pfs
            · rw [if_pos hq, if_pos hq]
              exact ⟨by decide, fun _ => le_lastL (mem_atP.2 ⟨he, hq.symm⟩)⟩
            · rw [if_neg hq, if_neg hq]; exact hb.elem e he
        have hrx : roleAt ⟨b.run, b.roles.set p.toNat 2, b.fed.set p.toNat (lastL (atP b.run p))⟩ p = 2 := by rw [role_set b p p 2 _ _ p0 p1 p0 p1, if_pos rfl]
        have hu : upB ⟨b.run, b.roles.set p.toNat 2, b.fed.set p.toNat (lastL (atP b.run p))⟩ p = (b, 0) := by
          unfold upB
          rw [if_neg (by simpa using lookB_zero.2 ⟨hB, p0, p1⟩), if_neg (by simpa using hrx)]
          dsimp only
          rw [a16_set_set, a16_set_set, a16_set_same _ _ _ (by rw [role_get b p0 p1, hr]), a16_set_same _ _ _ (by rw [fed_get b p0 p1, hf0])]
        have hu2 : (upB b p).2 = 10 := by
          unfold upB
          rw [if_neg (by simpa using hl), if_pos (by rw [hr]; decide)]
        rw [hu]
        dsimp only
        rw [hu2, show ((0 : Int) == 0) = true by rfl, cond_true, show ((10 : Int) == 10) = true by rfl, cond_true, sameBook_eq _ _ (by have := hb.run.len; omega), Option.bind_some, decide_eq_true rfl, cond_true]
        have hi : idx (b.roles.set p.toNat 2).list p = some 2 := by
          have := idx_role ⟨b.run, b.roles.set p.toNat 2, b.fed.set p.toNat (lastL (atP b.run p))⟩ p0 p1
          rw [hrx] at this
          exact this
        rw [hi, Option.bind_some, show ((2 : Int) == 2) = true by rfl, cond_true, realm_Check_eq, Option.bind_some, chkB_zero.2 hB]
        rfl
  · rw [bne0_true h, cond_true]
    have hz : (downB b p).1 = zB := by
      unfold downB at h ⊢
      split
      · rfl
      · rename_i h1
        rw [if_neg h1] at h
        split
        · rfl
        · rename_i h2; rw [if_neg h2] at h; exact absurd rfl h
    rw [hz]
    show ((annalref_SameBook F zB zB).bind _) = _
    rw [sameBook_eq _ _ (by show (0 : Nat) ≤ _; omega), Option.bind_some, decide_eq_true rfl]
end Go.Proofs.Ytomgholekojenaa
