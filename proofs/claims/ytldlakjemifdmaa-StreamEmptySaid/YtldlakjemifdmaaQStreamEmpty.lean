/- Plain Lean: the law StreamEmpty. Its conditions: none. -/
import Derived.Test.YtldlakjemifdmaaWStreamEmptyF
import Derived.Test.YtldlakjemifdmaaPStreamL
namespace Go.Proofs.Ytldlakjemifdmaa
set_option linter.unusedVariables false
set_option linter.unusedSimpArgs false

theorem annalkeep_StreamEmpty_true (F : Nat) [Big F] (l m : List DElem) (pfs t : Int) (k0 : okAllW 56 okElem l) (k1 : okAllW 56 okElem m) (k2 : okInt .i64 pfs) (k3 : okInt .i64 t) : annalkeep_StreamEmpty F l m pfs t = some true := by
  unfold annalkeep_StreamEmpty
  have hl0 : lookE 0 1 1 = 0 := rfl
  have hf0 : freshR [oneE] 0 1 1 = [] := rfl
  have hsz : ((ofL (strR [oneE] 0 1 1)).size : Int) = 26 := by
    rw [str_size]
    unfold strR streamB
    rw [hf0, List.length_append, List.length_append, headS_length, endS_length]; rfl
  rw [at1_eq, Option.bind_some]
  show ((stream_Read F [oneE] 0 1 1).bind _) = _
  rw [read_eq run_one hl0, Option.bind_some]
  dsimp only
  rw [feed_nothing run_one Run.nil hl0, Option.bind_some, hsz]
  dsimp only
  rw [show ((0 : Int) != 0 || ((0 : Int) != 0 || ((26 : Int) != 26 || (([] : List DElem).length : Int) != 0))) = false by decide, cond_false]
  by_cases h : readE l pfs t t = 0
  · obtain ⟨hr, h1, h2, h3, _, h5⟩ := readE_zero.1 h
    have hk : lookE pfs t t = 0 := lookE_zero.2 ⟨h1, h2, h3, Int.le_refl _, h5⟩
    rw [read_eq hr hk, Option.bind_some]
    dsimp only
    rw [bne0_false rfl, cond_false]
    by_cases hm : chkR m = 0
    · have hrm := chkR_zero.1 hm
      rw [feed_nothing hr hrm hk, Option.bind_some, run_Check_eq, Option.bind_some, bne0_false hm, cond_false]
      dsimp only
      rw [show ((0 : Int) == 0) = true by decide, cond_true, eqElem_self _ (by have := hrm.len; omega)]; rfl
    · rw [stream_Feed_bad hm, Option.bind_some, run_Check_eq, Option.bind_some, bne0_true hm, cond_true]
      rfl
  · rw [stream_Read_eq, if_neg h, Option.bind_some]
    dsimp only
    rw [bne0_true h, cond_true, bits_empty]
end Go.Proofs.Ytldlakjemifdmaa
