/- Plain Lean: the law SnapNames. Its conditions: none. -/
import Derived.Test.YtjefpcemcckocaaWSnapNamesF
import Derived.Test.YtjefpcemcckocaaPSnap
import Derived.Test.YtjefpcemcckocaaPEq
import Derived.Test.YtjefpcemcckocaaLaw
namespace Go.Proofs.Ytjefpcemcckocaa
set_option linter.unusedVariables false
set_option linter.unusedSimpArgs false
theorem addS_comm {l : List DSnap} {a b : ByteArray} {t u : Int} (ha : AddOk l a t) (hb : AddOk l b u) (hab : AddOk (addS l a t) b u) (hba : AddOk (addS l b u) a t) : addS (addS l a t) b u = addS (addS l b u) a t := by
  refine sorted_ext Nlt.irrefl Nlt.trans hab.run.ord hba.run.ord fun e => ?_
  rw [mem_addS ha.run.ord, mem_addS hb.run.ord, mem_addS ha.snaps.ord, mem_addS ha.snaps.ord]
  constructor
  · rintro (h | h | h)
    · exact .inr (.inl h)
    · exact .inl h
    · exact .inr (.inr h)
  · rintro (h | h | h)
    · exact .inr (.inl h)
    · exact .inl h
    · exact .inr (.inr h)
theorem annalkeep_SnapNames_true (F : Nat) [Big F] (l : List DSnap) (a b : ByteArray) (t u : Int) (_ : okAllW 24 okSnap l) (_ : okStr a) (_ : a.size ≤ reachBytes) (_ : okStr b) (_ : b.size ≤ reachBytes) (_ : okInt .i64 t) (_ : okInt .i64 u) : annalkeep_SnapNames F l a b t u = some true := by
  unfold annalkeep_SnapNames
  have h0 : AddOk [] (ByteArray.mk #[97]) 5 := ⟨Snaps.nil, (nameB_ofL [97]).trans (by decide), by decide, rfl, by decide⟩
  show ((snap_Add F [] (ByteArray.mk #[97]) 5).bind _) = _
  rw [snap_Add_ok h0, Option.bind_some]
  dsimp only
  rw [bne0_false rfl, cond_false, eqSnap _ _ (by decide), Option.bind_some, show addS [] (ByteArray.mk #[97]) 5 = [⟨ByteArray.mk #[97], 5⟩] from rfl, decide_eq_true rfl, Bool.not_true, Option.bind_some, cond_false]
  rcases snap_Add_cases (F := F) l a t with ⟨e, he, h⟩ | h
  · rw [h, Option.bind_some, bne0_true he, cond_true]; rfl
  have hr := h.run
  have hlen := h.snaps.len
  rw [snap_Add_ok h, Option.bind_some]
  dsimp only
  rw [bne0_false rfl, cond_false, snap_Find_has hr ((mem_addS h.snaps.ord).2 (.inl rfl)) rfl, Option.bind_some, snap_Drop_add h, Option.bind_some]
  dsimp only
  rw [snap_Find_no h.snaps h.no, Option.bind_some]
  dsimp only
  rw [bne0_false rfl, cond_false, cond_false, show (t != t) = false by simp, cond_false, show ((4 : Int) != 4) = false by decide, cond_false, eqSnap _ _ (by omega), Option.bind_some, decide_eq_true rfl, Bool.not_true, cond_false, snap_Check_eq, chkSn_zero.2 hr, Option.bind_some, Option.bind_some, bne0_false rfl, cond_false]
  rcases snap_Add_cases (F := F) (addS l a t) b u with ⟨e, he, h2⟩ | h2
  · rcases snap_Add_cases (F := F) l b u with ⟨e', he', h3⟩ | h3
    · rw [h2, h3, Option.bind_some, Option.bind_some, bne0_true he, Bool.true_or, cond_true]
    · rw [h2, snap_Add_ok h3, Option.bind_some, Option.bind_some, bne0_true he, Bool.true_or, cond_true]
  rcases snap_Add_cases (F := F) l b u with ⟨e', he', h3⟩ | h3
  · rw [snap_Add_ok h2, h3, Option.bind_some, Option.bind_some, bne0_true he', Bool.or_true, cond_true]
  have hne : b ≠ a := fun e => by
    have := hasN_iff.2 ⟨⟨a, t⟩, (mem_addS h.snaps.ord).2 (.inl rfl), e.symm⟩
    rw [h2.no] at this; cases this
  have h4 : AddOk (addS l b u) a t := ⟨h3.run, h.name, h.tid, by
    cases hh : hasN (addS l b u) a with
    | false => rfl
    | true =>
      obtain ⟨e, he, hen⟩ := hasN_iff.1 hh
      rcases (mem_addS h.snaps.ord).1 he with rfl | he
      · exact absurd hen hne
      · have := hasN_iff.2 ⟨e, he, hen⟩
        rw [h.no] at this; exact absurd this (by decide), by
    have h5 := h2.room
    rw [addS_length h.snaps.ord] at h5 ⊢; exact h5⟩
  rw [snap_Add_ok h2, snap_Add_ok h3, Option.bind_some, Option.bind_some]
  dsimp only
  rw [bne0_false rfl, Bool.or_false, cond_false, snap_Add_ok h4, Option.bind_some]
  dsimp only
  rw [show ((0 : Int) == 0) = true from rfl, cond_true, eqSnap _ _ (by have := h2.run.len; omega), addS_comm h h3 h2 h4, decide_eq_true rfl]
  rfl
end Go.Proofs.Ytjefpcemcckocaa
