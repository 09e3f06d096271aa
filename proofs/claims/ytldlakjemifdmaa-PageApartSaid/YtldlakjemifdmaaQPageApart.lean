/- Plain Lean: the law PageApart. Its conditions: none. -/
import Derived.Test.YtldlakjemifdmaaWPageApartF
import Derived.Test.YtldlakjemifdmaaPPage
namespace Go.Proofs.Ytldlakjemifdmaa
set_option linter.unusedVariables false
set_option linter.unusedSimpArgs false

theorem small_zN : Small zN := ⟨by simp [zN], by simp [zN], by simp [zN], by simp [zN]⟩
theorem chk_zN : chkN zN = 0 := rfl
theorem annalkeep_PageApart_true (F : Nat) [Big F] (a b : DNode) (k0 : okNode a) (k1 : okNode b) : annalkeep_PageApart F a b = some true := by
  have ha := small_ok k0
  have hb := small_ok k1
  unfold annalkeep_PageApart
  have e0 : page_Write F (DNode.mk 0 [] [] [] []) = some (ofL (pageB zN), 0) := by
    have := page_Write_eq (F := F) zN small_zN
    rw [if_pos chk_zN] at this; exact this
  have hl := page_length zN
  have hb0 : bodyN zN = [] := rfl
  rw [hb0] at hl
  have hsz : (ofL (pageB zN)).size = 5 := hl
  have h3 : (pageB zN).take 3 = [1, 0, 0] := rfl
  have hs3 : sslice (ofL (pageB zN)) 0 3 = some (ofL [1, 0, 0]) := by
    have := sslice_ofL (l := pageB zN) (lo := 0) (hi := 3) (by decide) (by decide) (by rw [hl]; decide)
    rw [this]; exact congrArg (fun l => some (ofL l)) h3
  rw [e0, Option.bind_some]
  dsimp only
  rw [bne0_false rfl, cond_false, hsz, decide_eq_false (by decide), cond_false, hs3, Option.bind_some, Option.bind_some]
  have hq : seq (ofL [1, 0, 0]) (ByteArray.mk #[1, 0, 0]) = true := (seq_iff _ _).2 rfl
  rw [hq, Bool.not_true, cond_false, page_Write_eq a ha, page_Write_eq b hb, Option.bind_some, Option.bind_some]
  by_cases ca : chkN a = 0
  · rw [if_pos ca]
    by_cases cb : chkN b = 0
    · rw [if_pos cb]
      dsimp only
      rw [bne0_false rfl, Bool.or_self, cond_false, sameNode_eq a b ha, Option.bind_some]
      congr 1
      rw [beq_iff_eq, Bool.eq_iff_iff, seq_iff, decide_eq_true_eq]
      constructor
      · intro h
        have h1 := read_page ca
        have h2 := read_page cb
        rw [ofL_inj.1 h, h2] at h1
        exact ((Prod.mk.inj h1).1).symm
      · intro h; rw [h]
    · rw [if_neg cb]
      dsimp only
      rw [bne0_true cb, Bool.or_true, cond_true]; rfl
  · rw [if_neg ca]
    dsimp only
    rw [bne0_true ca, Bool.true_or, cond_true, seq_nil]
    simp
end Go.Proofs.Ytldlakjemifdmaa
