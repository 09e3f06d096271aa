/- Plain Lean: the law StreamAgain. Its conditions: none. -/
import Derived.Test.YtldlakjemifdmaaWStreamAgainF
import Derived.Test.YtldlakjemifdmaaPStreamL
namespace Go.Proofs.Ytldlakjemifdmaa
open Go.ChangeShapes
set_option linter.unusedVariables false
set_option linter.unusedSimpArgs false

theorem annalkeep_StreamAgain_true (F : Nat) [Big F] (l : List DElem) (pfs a b k : Int) (k0 : okAllW 56 okElem l) (k1 : okInt .i64 pfs) (k2 : okInt .i64 a) (k3 : okInt .i64 b) (k4 : okInt .i64 k) : annalkeep_StreamAgain F l pfs a b k = some true := by
  unfold annalkeep_StreamAgain
  have hp0 : (parseR []).2 = 7 := rfl
  have f0 : stream_Feed F ([] : List DElem) (ByteArray.mk #[]) = some ([], 7) := by
    have := stream_Feed_none (F := F) (chkR_zero.2 Run.nil) (b := []) (by simp) (by rw [hp0]; decide)
    rw [hp0] at this
    exact this
  rw [f0, Option.bind_some]
  dsimp only
  rw [show ((7 : Int) != 7) = false by decide, cond_false, run_Last_eq]
  by_cases h : readE l pfs a b = 0
  · obtain ⟨hr, h1, h2, h3, h4, h5⟩ := readE_zero.1 h
    have hk : lookE pfs a b = 0 := lookE_zero.2 ⟨h1, h2, h3, h4, h5⟩
    have hc := chkR_zero.2 hr
    rw [read_eq hr hk, Option.bind_some, Option.bind_some, hc, if_pos rfl]
    dsimp only
    have hlen := str_length hr pfs a b
    have hpos : 26 ≤ (strR l pfs a b).length := by
      unfold strR streamB
      rw [List.length_append, List.length_append, headS_length, endS_length]; omega
    obtain ⟨r, hw, r0, r1⟩ := within_some k (n := ((ofL (strR l pfs a b)).size : Int)) (by rw [str_size]; omega) (by rw [str_size]; omega)
    rw [str_size] at r1
    have hsl : sslice (ofL (strR l pfs a b)) 0 r = some (ofL ((strR l pfs a b).take r.toNat)) := sslice_ofL (by decide) r0 (by omega)
    have hcat : scat (ofL (strR l pfs a b)) (ByteArray.mk #[0]) = some (ofL (strR l pfs a b ++ [0])) := scat_ofL (b := [0]) (by simp; omega)
    obtain ⟨e1, n1, f1⟩ := feed_short (F := F) hr hr hk (j := r.toNat) (by omega)
    obtain ⟨e2, n2, f2⟩ := feed_long (F := F) hr hr hk
    rw [bne0_false rfl, Bool.or_self, cond_false, hw, Option.bind_some, hsl, Option.bind_some, f1, Option.bind_some, hcat, Option.bind_some, f2, Option.bind_some]
    dsimp only
    rw [show (e1 == 0) = false by simpa using n1, show (e2 == 0) = false by simpa using n2, Bool.or_self, cond_false]
    by_cases hb : b < lastL l
    · rw [decide_eq_true hb, cond_true]
    · rw [decide_eq_false hb, cond_false]
      have hsub : mergeR l (freshR l pfs a b) = l := mergeR_sub (spots_of (hr.fresh pfs a b).ord) (spots_of hr.ord) fun e he => upto_late (by omega) e (mem_freshR.1 he).1
      have f3 := feed_str (F := F) hr hr hk (by rw [hsub]; exact hr)
      rw [f3, hsub, Option.bind_some]
      dsimp only
      rw [show ((0 : Int) == 0) = true by decide, cond_true, eqElem_self _ (by have := hr.len; omega)]; rfl
  · rw [stream_Read_eq, if_neg h, Option.bind_some, Option.bind_some]
    dsimp only
    rw [bne0_true h, Bool.true_or, cond_true, bits_empty]; rfl
end Go.Proofs.Ytldlakjemifdmaa
