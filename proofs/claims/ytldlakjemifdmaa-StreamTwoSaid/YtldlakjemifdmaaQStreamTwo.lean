/- Plain Lean: the law StreamTwo. Its conditions: none. -/
import Derived.Test.YtldlakjemifdmaaWStreamTwoF
import Derived.Test.YtldlakjemifdmaaPStreamL
namespace Go.Proofs.Ytldlakjemifdmaa
set_option linter.unusedVariables false
set_option linter.unusedSimpArgs false

theorem annalkeep_StreamTwo_true (F : Nat) [Big F] (l : List DElem) (a b : Int) (k0 : okAllW 56 okElem l) (k1 : okInt .i64 a) (k2 : okInt .i64 b) : annalkeep_StreamTwo F l a b = some true := by
  unfold annalkeep_StreamTwo
  have hl0 : lookE 0 0 1 = 0 := rfl
  have hf0 : (freshR [oneE] 0 0 1).length = 1 := rfl
  rw [at1_eq, Option.bind_some]
  show ((stream_Read F [oneE] 0 0 1).bind _) = _
  rw [read_eq run_one hl0, Option.bind_some]
  dsimp only
  rw [feed_nil run_one hl0, Option.bind_some]
  dsimp only
  rw [hf0, show ((0 : Int) != 0 || ((0 : Int) != 0 || (((1 : Nat) : Int) != 1))) = false by decide, cond_false, run_Check_eq, Option.bind_some]
  by_cases h : chkR l = 0
  · have hr := chkR_zero.1 h
    obtain ⟨x, hx, hx1⟩ := within_eq (n := a) (m := 40) (by decide) (by decide) k1
    obtain ⟨y, hy, hy1⟩ := within_eq (n := b) (m := 40) (by decide) (by decide) k2
    have la : lookE 0 0 (x : Int) = 0 := lookE_zero.2 ⟨by omega, by omega, by omega, by omega, by omega⟩
    have lb : lookE 1 0 (y : Int) = 0 := lookE_zero.2 ⟨by omega, by omega, by omega, by omega, by omega⟩
    rw [bne0_false h, cond_false, hx, Option.bind_some, hy, Option.bind_some, read_eq hr la, Option.bind_some, read_eq hr lb, Option.bind_some]
    dsimp only
    rw [bne0_false rfl, Bool.or_self, cond_false, feed_nil hr la, feed_nil hr lb, Option.bind_some, Option.bind_some]
    dsimp only
    rw [bne0_false rfl, Bool.or_self, cond_false]
    have fa := fresh_zero hr 0 (x : Int)
    have fb := fresh_zero hr 1 (y : Int)
    have ra := hr.upto 0 (x : Int)
    have rb := hr.upto 1 (y : Int)
    have hlen := upto_len2 hr (p := 0) (q := 1) (a := x) (b := y) (by decide)
    have hd : ∀ u ∈ uptoR l 0 (x : Int), ∀ v ∈ uptoR l 1 (y : Int), u.key ≠ v.key := fun u hu v hv hk => by
      have h1 := upto_pfs u hu
      have h2 := upto_pfs v hv
      rw [hk, h2] at h1
      cases h1
    have hd2 : ∀ u ∈ uptoR l 0 (x : Int), ∀ v ∈ uptoR l 1 (y : Int), spotE u ≠ spotE v := fun u hu v hv hk => hd u hu v hv (DSpot.mk.inj hk).1
    have r1 : Run (mergeR (uptoR l 0 (x : Int)) (uptoR l 1 (y : Int))) := run_two ra rb hd hlen
    have hc := mergeR_comm (spots_of ra.ord) (spots_of rb.ord) hd2
    have hln := mergeR_len (spots_of ra.ord) (spots_of rb.ord) hd2
    have f1 := feed_str (F := F) hr ra lb (by rw [fb]; exact r1)
    have f2 := feed_str (F := F) hr rb la (by rw [fa, ← hc]; exact r1)
    rw [fa, fb, f1, f2, fa, fb, ← hc, Option.bind_some, Option.bind_some]
    dsimp only
    rw [show ((0 : Int) == 0) = true by decide, cond_true, cond_true, eqElem_self _ (by have := r1.len; omega), Option.bind_some, cond_true, hln, w64 (by omega) (by omega)]
    simp
  · rw [bne0_true h, cond_true]
end Go.Proofs.Ytldlakjemifdmaa
