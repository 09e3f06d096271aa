/- Plain Lean: the law PageBack. Its conditions: none. -/
import Derived.Test.YtldlakjemifdmaaWPageBackF
import Derived.Test.YtldlakjemifdmaaPPage
namespace Go.Proofs.Ytldlakjemifdmaa
set_option linter.unusedVariables false
set_option linter.unusedSimpArgs false

theorem annalkeep_PageBack_true (F : Nat) [Big F] (n : DNode) (k : Int) (k0 : okNode n) (k1 : okInt .i64 k) : annalkeep_PageBack F n k = some true := by
  have hn := small_ok k0
  unfold annalkeep_PageBack
  have s0 : Small (DNode.mk 1 [] [] [] []) := ⟨by simp, by simp, by simp, by simp⟩
  have c0 : chkN (DNode.mk 1 [] [] [] []) = 0 := rfl
  have hl := page_length (DNode.mk 1 [] [] [] [])
  have hb0 : bodyN (DNode.mk 1 [] [] [] []) = [] := rfl
  rw [hb0] at hl
  have hsz : (ofL (pageB (DNode.mk 1 [] [] [] []))).size = 5 := hl
  rw [page_Write_eq _ s0, if_pos c0, Option.bind_some]
  dsimp only
  rw [hsz, show (((0 : Int) != 0) || (((5 : Nat) : Int) != 5)) = false by decide, cond_false, page_Write_eq n hn, Option.bind_some]
  by_cases c : chkN n = 0
  · have hbl := body_len c
    have hpl := page_length n
    rw [if_pos c]
    dsimp only
    rw [bne0_false rfl, cond_false, page_Read_eq _ (by omega), read_page c, Option.bind_some]
    have hps : ((ofL (pageB n)).size : Int) = ((pageB n).length : Int) := rfl
    obtain ⟨r, hr, r0, r1⟩ := within_some k (n := ((ofL (pageB n)).size : Int)) (by rw [hps]; omega) (by rw [hps]; omega)
    rw [hps] at r1
    have hsl : sslice (ofL (pageB n)) 0 r = some (ofL ((pageB n).take r.toNat)) := sslice_ofL (by decide) r0 (by omega)
    have hcat : scat (ofL (pageB n)) (ByteArray.mk #[0]) = some (ofL (pageB n ++ [0])) := scat_ofL (b := [0]) (by simp; omega)
    rw [hr, Option.bind_some, hsl, Option.bind_some, page_Read_eq _ (by rw [List.length_take]; omega), Option.bind_some, hcat, Option.bind_some, page_Read_eq _ (by simp; omega), Option.bind_some, read_long c, read_short c (by omega)]
    dsimp only
    rw [show ((0 : Int) == 0) = true by decide, cond_true, sameNode_eq n n hn, decide_eq_true rfl, Option.bind_some, cond_true, show ((7 : Int) == 7) = true by decide, cond_true, show ((3 : Int) == 3) = true by decide, cond_true, hps, decide_eq_true (by omega)]
    rfl
  · rw [if_neg c]
    dsimp only
    rw [bne0_true c, cond_true, seq_nil, decide_eq_true rfl, cond_true, node_Check_eq n hn]
    simp
end Go.Proofs.Ytldlakjemifdmaa
