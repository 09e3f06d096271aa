/- Plain Lean: the law NodeGreat. Its conditions: none. -/
import Derived.Test.YtldlakjemifdmaaWNodeGreatF
import Derived.Test.YtldlakjemifdmaaPNode
namespace Go.Proofs.Ytldlakjemifdmaa
set_option linter.unusedVariables false
set_option linter.unusedSimpArgs false

theorem foldl_or {α : Type} (p : α → Bool) : ∀ (l : List α) (b : Bool), l.foldl (fun b e => b || p e) b = (b || l.any p)
  | [], b => by simp
  | x :: l, b => by rw [List.foldl_cons, foldl_or p l, List.any_cons, Bool.or_assoc]
theorem annalkeep_NodeGreat_true (F : Nat) [Big F] (n : DNode) (k0 : okNode n) : annalkeep_NodeGreat F n = some true := by
  have hs := small_ok k0
  unfold annalkeep_NodeGreat
  have s0 : Small (DNode.mk 1 [(DElem.mk (DKey.mk 0 0 0) 2 7 (ByteArray.mk #[]))] [] [] []) := ⟨by simp, by simp, by simp, by simp⟩
  have c0 : chkN (DNode.mk 1 [(DElem.mk (DKey.mk 0 0 0) 2 7 (ByteArray.mk #[]))] [] [] []) = 0 := by decide
  have g0 : greatR (DNode.mk 1 [(DElem.mk (DKey.mk 0 0 0) 2 7 (ByteArray.mk #[]))] [] [] []) = 7 := by decide
  rw [node_Tid_eq _ s0, c0, g0, if_pos rfl, Option.bind_some]
  dsimp only
  rw [show (((7 : Int) != 7) || ((0 : Int) != 0)) = false by decide, cond_false, node_Tid_eq n hs, Option.bind_some]
  by_cases h : chkN n = 0
  · rw [h, if_pos rfl]
    dsimp only
    rw [bne0_false rfl, cond_false]
    obtain ⟨h1, h2, h3⟩ := great_spec n
    generalize greatR n = g at h1 h2 h3
    have l1 := hs.elems
    have l2 := hs.tids
    rw [loop_fold (τ := Bool) n.elems (fun b e => b || (lastE e == g)) (g == 0) (r := .inl (n.elems.foldl (fun b e => b || (lastE e == g)) (g == 0))) (by omega) rfl (fun k e hk => ?_) (by simp), Option.bind_some]
    · dsimp only
      rw [loop_fold (τ := Bool) n.tids (fun b e => b || (e == g)) (n.elems.foldl (fun b e => b || (lastE e == g)) (g == 0)) (r := .inl (n.tids.foldl (fun b e => b || (e == g)) (n.elems.foldl (fun b e => b || (lastE e == g)) (g == 0)))) (by omega) rfl (fun k e hk => ?_) (by simp), Option.bind_some]
      · dsimp only
        rw [foldl_or, foldl_or]
        congr 1
        rw [Bool.or_eq_true, Bool.or_eq_true, List.any_eq_true, List.any_eq_true]
        rcases h3 with h3 | ⟨e, he, h3⟩ | ⟨t, ht, h3⟩
        · exact .inl (.inl (by simpa using h3))
        · exact .inl (.inr ⟨e, he, by simpa using h3⟩)
        · exact .inr ⟨t, ht, by simpa using h3⟩
      · have hkl := (List.getElem?_eq_some_iff.1 hk).1
        have hle := h2 e (List.mem_of_getElem? hk)
        dsimp only
        rw [decide_eq_true (by omega), cond_true, idx_nat', hk, Option.bind_some, decide_eq_false (by omega), cond_false, w64 (by omega) (by omega)]
    · have hkl := (List.getElem?_eq_some_iff.1 hk).1
      have hle := h1 e (List.mem_of_getElem? hk)
      generalize (n.elems.take k).foldl (fun b e => b || (lastE e == g)) (g == 0) = x
      dsimp only
      rw [decide_eq_true (by omega), cond_true, idx_nat', hk, Option.bind_some, elem_Last_eq, Option.bind_some, w64 (by omega) (by omega)]
      cases x
      · rw [cond_false, Option.bind_some, Option.bind_some, decide_eq_false (by omega), cond_false, Bool.false_or]
      · rw [cond_true, Option.bind_some, Option.bind_some, decide_eq_false (by omega), cond_false, Bool.true_or]
  · rw [if_neg h]
    dsimp only
    rw [bne0_true h, cond_true, node_Check_eq n hs]
    simp
end Go.Proofs.Ytldlakjemifdmaa
