/- Plain Lean: the law StreamParts. Its conditions: none. -/
import Derived.Test.YtldlakjemifdmaaWStreamPartsF
import Derived.Test.YtldlakjemifdmaaPStreamL
namespace Go.Proofs.Ytldlakjemifdmaa
set_option linter.unusedVariables false
set_option linter.unusedSimpArgs false

theorem annalkeep_StreamParts_true (F : Nat) [Big F] (l : List DElem) (pfs a b : Int) (k0 : okAllW 56 okElem l) (k1 : okInt .i64 pfs) (k2 : okInt .i64 a) (k3 : okInt .i64 b) : annalkeep_StreamParts F l pfs a b = some true := by
  unfold annalkeep_StreamParts
  have hl0 : lookE 0 0 0 = 0 := rfl
  have hf0 : freshR [] 0 0 0 = [] := rfl
  have hsz : ((ofL (strR [] 0 0 0)).size : Int) = 26 := by
    rw [str_size]
    unfold strR streamB
    rw [hf0, List.length_append, List.length_append, headS_length, endS_length]; rfl
  rw [read_eq Run.nil hl0, Option.bind_some]
  dsimp only
  rw [hsz, show ((0 : Int) != 0 || ((26 : Int) != 26)) = false by decide, cond_false, run_Check_eq, Option.bind_some]
  by_cases h : chkR l = 0
  · have hr := chkR_zero.1 h
    obtain ⟨p, hp, hp1⟩ := within_eq (n := pfs) (m := 16) (by decide) (by decide) k1
    obtain ⟨x, hx, hx1⟩ := within_eq (n := a) (m := 40) (by decide) (by decide) k2
    obtain ⟨y, hy, hy1⟩ := within_eq (n := b) (m := 40) (by decide) (by decide) k3
    rw [bne0_false h, cond_false, hp, Option.bind_some, hx, Option.bind_some, hy, Option.bind_some]
    obtain ⟨lo, hlo, h0⟩ : ∃ lo, (if (y : Int) < (x : Int) then (y : Int) else (x : Int)) = lo ∧ 0 ≤ lo := ⟨_, rfl, by split <;> omega⟩
    obtain ⟨hi, hhi, h1, h2⟩ : ∃ hi, (if (x : Int) < (y : Int) then (y : Int) else (x : Int)) = hi ∧ lo ≤ hi ∧ hi < 40 := ⟨_, rfl, by rw [← hlo]; split <;> split <;> omega, by split <;> omega⟩
    rw [hlo, hhi]
    have l1 : lookE (p : Int) 0 hi = 0 := lookE_zero.2 ⟨by omega, by omega, by omega, by omega, by omega⟩
    have l2 : lookE (p : Int) 0 lo = 0 := lookE_zero.2 ⟨by omega, by omega, by omega, by omega, by omega⟩
    have l3 : lookE (p : Int) lo hi = 0 := lookE_zero.2 ⟨by omega, by omega, by omega, by omega, by omega⟩
    have hu : uptoE l (p : Int) hi = 0 := uptoE_zero.2 ⟨hr, by omega, by omega, by omega, by omega⟩
    rw [stream_Upto_eq, hu, if_pos rfl, Option.bind_some, read_eq hr l1, read_eq hr l2, read_eq hr l3, Option.bind_some, Option.bind_some, Option.bind_some]
    dsimp only
    rw [bne0_false rfl, Bool.or_self, Bool.or_self, Bool.or_self, cond_false, feed_nil hr l1, feed_nil hr l2, Option.bind_some, Option.bind_some]
    dsimp only
    rw [fresh_zero hr, fresh_zero hr]
    have hparts := upto_parts hr (pfs := (p : Int)) h1
    have hru := hr.upto (p : Int) hi
    have f3 := feed_str (F := F) hr (hr.upto (p : Int) lo) l3 (by rw [hparts]; exact hru)
    rw [f3, hparts, Option.bind_some]
    dsimp only
    rw [show ((0 : Int) == 0) = true by decide, cond_true, cond_true, cond_true, eqElem_self _ (by have := hru.len; omega), Option.bind_some, cond_true, Option.bind_some, Option.bind_some]
  · rw [bne0_true h, cond_true]
end Go.Proofs.Ytldlakjemifdmaa
