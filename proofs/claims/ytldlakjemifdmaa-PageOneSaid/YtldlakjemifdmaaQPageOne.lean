/- Plain Lean: the law PageOne. Its conditions: none. -/
import Derived.Test.YtldlakjemifdmaaWPageOneF
import Derived.Test.YtldlakjemifdmaaPPage
namespace Go.Proofs.Ytldlakjemifdmaa
set_option linter.unusedVariables false
set_option linter.unusedSimpArgs false

theorem annalkeep_PageOne_true (F : Nat) [Big F] (s : ByteArray) (k0 : okStr s) (k0_ : s.size ≤ reachBytes) : annalkeep_PageOne F s = some true := by
  obtain ⟨l, rfl⟩ := exists_ofL s
  have hl : l.length ≤ 140737488351232 := reach k0_
  unfold annalkeep_PageOne
  have f1 : fget [1, 0, 0, 0, 0] = (⟨0, ofL []⟩, 0, 6) := by
    have hc : (crc [1, 0, 0]).toNat = 14128 := by
      rw [crc_foldl]; simp only [List.foldl_cons, List.foldl_nil]; rw [show byte8 0#16 1 = 4129#16 from by decide, show byte8 4129#16 0 = 13105#16 from by decide, show byte8 13105#16 0 = 14128#16 from by decide]; rfl
    simp [fget, valL, hc]
  have r1 : page_Read F (ByteArray.mk #[1, 0, 0, 0, 0]) = some (zN, 6) := by
    have := page_Read_eq (F := F) [1, 0, 0, 0, 0] (by decide)
    unfold readN at this
    rw [f1] at this
    exact this
  rw [r1, Option.bind_some]
  dsimp only
  rw [show ((6 : Int) != 6) = false by decide, cond_false, page_Read_eq l (by omega), Option.bind_some]
  by_cases c : (readN l).2 = 0
  · obtain ⟨c1, c2⟩ := page_read (l := l) (n := (readN l).1) (Prod.ext rfl c)
    have p := parts c1
    have hs : Small (readN l).1 := by
      have := p.elems; have := p.kids; have := p.seps; have := p.tids
      constructor <;> omega
    rw [bne0_false c, cond_false, page_Write_eq _ hs, if_pos c1, Option.bind_some, c2]
    dsimp only
    rw [(seq_iff _ _).2 rfl]; rfl
  · rw [bne0_true c, cond_true, page_bad c, sameNode_eq _ _ ⟨by simp [zN], by simp [zN], by simp [zN], by simp [zN]⟩, Option.bind_some]; exact congrArg some (decide_eq_true rfl)
end Go.Proofs.Ytldlakjemifdmaa
