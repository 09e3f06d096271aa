/- Plain Lean: the law NodeWays. Its conditions: none. -/
import Derived.Test.YtldlakjemifdmaaWNodeWaysF
import Derived.Test.YtldlakjemifdmaaPNode
namespace Go.Proofs.Ytldlakjemifdmaa
set_option linter.unusedVariables false
set_option linter.unusedSimpArgs false

theorem way_mono {l : List DSpot} {a b : DSpot} (h : cmpS a b ≤ 0) : wayR l a ≤ wayR l b := by
  rcases Nat.lt_or_ge (wayR l b) (wayR l a) with hl | hl
  · exfalso
    have hle := wayR_le l a
    have hx := List.getElem?_eq_getElem (show wayR l b < l.length by omega)
    exact (wayR_at l b).2 _ hx (cmp_cmpS.trans _ _ _ ((wayR_at l a).1 _ _ hl hx) h)
  · exact hl
theorem way_self {l : List DSpot} (h : l.Pairwise SpotO) {j : Nat} {s : DSpot} (hj : l[j]? = some s) : wayR l s = j + 1 := by
  have hlt := (List.getElem?_eq_some_iff.1 hj).1
  have hle := wayR_le l s
  obtain ⟨w1, w2⟩ := wayR_at l s
  rcases Nat.lt_trichotomy (wayR l s) (j + 1) with h1 | h1 | h1
  · exfalso
    rcases Nat.lt_or_ge (wayR l s) j with h2 | h2
    · have hx := List.getElem?_eq_getElem (show wayR l s < l.length by omega)
      have h3 := pairwise_at h h2 hx hj
      unfold SpotO at h3
      exact w2 _ hx (by omega)
    · have e : wayR l s = j := by omega
      exact w2 s (by rw [e]; exact hj) (by rw [cmp_cmpS.refl]; omega)
  · exact h1
  · exfalso
    have hx := List.getElem?_eq_getElem (show j + 1 < l.length by omega)
    have h3 := pairwise_at h (show j < j + 1 by omega) hj hx
    have h4 := w1 _ _ h1 hx
    unfold SpotO at h3
    have := cmp_cmpS.neg s l[j + 1]
    omega
theorem annalkeep_NodeWays_true (F : Nat) [Big F] (n : DNode) (a b : DSpot) (k0 : okNode n) (k1 : okSpot a) (k2 : okSpot b) : annalkeep_NodeWays F n a b = some true := by
  have hs := small_ok k0
  have ls := hs.seps
  unfold annalkeep_NodeWays
  have s0 : Small (DNode.mk 2 [] [1, 2] [(DSpot.mk (DKey.mk 0 0 0) 5)] [3, 4]) := ⟨by simp, by simp, by simp, by simp⟩
  have c0 : chkN (DNode.mk 2 [] [1, 2] [(DSpot.mk (DKey.mk 0 0 0) 5)] [3, 4]) = 0 := by decide
  have g0 : greatR (DNode.mk 2 [] [1, 2] [(DSpot.mk (DKey.mk 0 0 0) 5)] [3, 4]) = 4 := by decide
  have w0 : wayR [(DSpot.mk (DKey.mk 0 0 0) 5)] (DSpot.mk (DKey.mk 0 0 0) 5) = 1 := by decide
  rw [node_Kid_eq _ _ s0, c0, Option.bind_some, if_pos (show (0 : Int) = 0 ∧ (2 : Int) = 2 by decide), if_neg (show ¬ (0 : Int) ≠ 0 by decide), if_pos (show (2 : Int) = 2 from rfl)]
  dsimp only
  rw [w0, show ((((1 : Nat) : Int) != 1) || ((0 : Int) != 0)) = false by decide, cond_false, node_Tid_eq _ s0, c0, g0, if_pos rfl, Option.bind_some]
  dsimp only
  rw [show (((4 : Int) != 4) || ((0 : Int) != 0)) = false by decide, cond_false]
  by_cases h : chkN n = 0 ∧ n.kind = 2
  · obtain ⟨hc, hk⟩ := h
    have hi : Inner n := by
      rcases chkN_zero.1 hc with h1 | h1 | h1
      · omega
      · omega
      · exact h1.2
    have kid : ∀ s, node_Kid F n s = some ((wayR n.seps s : Int), 0) := fun s => by
      rw [node_Kid_eq n s hs, if_pos (show chkN n = 0 ∧ n.kind = 2 from ⟨hc, hk⟩), if_neg (show ¬ chkN n ≠ 0 by simpa using hc), if_pos hk]
    rw [kid, kid, Option.bind_some, Option.bind_some]
    dsimp only
    have lea := wayR_le n.seps a
    have hl := hi.seps
    rw [bne0_false rfl, Bool.or_self, cond_false, decide_eq_false (show ¬ (wayR n.seps a : Int) < 0 by omega), cond_false, decide_eq_false (show ¬ (n.kids.length : Int) ≤ wayR n.seps a by omega), cond_false, key_CmpSpot_eq, Option.bind_some]
    have e1 : (bif decide (cmpS a b ≤ 0) then some (decide ((wayR n.seps b : Int) < wayR n.seps a)) else some false) = some false := by
      by_cases hab : cmpS a b ≤ 0
      · have := way_mono (l := n.seps) hab
        rw [decide_eq_true hab, cond_true, decide_eq_false (by omega)]
      · rw [decide_eq_false hab, cond_false]
    rw [e1, Option.bind_some, cond_false]
    rw [loop_run (s := 0) (fun k => (k : Int)) n.seps.length (r := .inl ()) rfl (by omega) (fun k hk => ?_) (by simp), Option.bind_some]
    · dsimp only
      obtain ⟨w1, w2⟩ := wayR_at n.seps a
      have e2 : (bif ((wayR n.seps a : Int) == (n.seps.length : Int)) then some true else (idx n.seps (wayR n.seps a : Int)).bind fun e4 => (key_CmpSpot a e4).bind fun r9 => some (decide (r9 < 0))) = some true := by
        by_cases hq : wayR n.seps a = n.seps.length
        · rw [hq, show ((n.seps.length : Int) == (n.seps.length : Int)) = true by simp, cond_true]
        · have hx := List.getElem?_eq_getElem (show wayR n.seps a < n.seps.length by omega)
          rw [show ((wayR n.seps a : Int) == (n.seps.length : Int)) = false by simp; omega, cond_false, idx_nat', hx, Option.bind_some, key_CmpSpot_eq, Option.bind_some]
          have := w2 _ hx
          have := cmp_cmpS.neg a (n.seps[wayR n.seps a]'(by omega))
          rw [decide_eq_true (by omega)]
      by_cases h0 : wayR n.seps a = 0
      · rw [show ((wayR n.seps a : Int) == 0) = true by rw [h0]; rfl, cond_true, e2]; rfl
      · have hx := List.getElem?_eq_getElem (show wayR n.seps a - 1 < n.seps.length by omega)
        rw [show ((wayR n.seps a : Int) == 0) = false by simp; omega, cond_false, w64 (by omega) (by omega), show (wayR n.seps a : Int) - 1 = ((wayR n.seps a - 1 : Nat) : Int) by omega, idx_nat', hx, Option.bind_some, key_CmpSpot_eq, Option.bind_some, decide_eq_true (w1 _ _ (by omega) hx), cond_true, e2]; rfl
    · have hx := List.getElem?_eq_getElem hk
      have hw := way_self hi.ord hx
      rw [decide_eq_true (by omega), cond_true, idx_nat', hx, Option.bind_some, kid, Option.bind_some, hw]
      dsimp only
      rw [bne0_false rfl, Bool.false_or, w64 (by omega) (by omega), show (((k + 1 : Nat) : Int) != (k : Int) + 1) = false by simp, cond_false]; rfl
  · rw [node_Kid_eq n a hs, node_Kid_eq n b hs, Option.bind_some, Option.bind_some, if_neg h, if_neg h]
    dsimp only
    have hne : (if chkN n ≠ 0 then chkN n else if n.kind = 2 then (0 : Int) else 3) ≠ 0 := by
      by_cases h1 : chkN n = 0
      · rw [if_neg (by simpa using h1), if_neg (fun hk => h ⟨h1, hk⟩)]; decide
      · rw [if_pos h1]; exact h1
    rw [bne0_true hne, Bool.true_or, cond_true]
    simp
end Go.Proofs.Ytldlakjemifdmaa
