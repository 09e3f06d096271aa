/- Plain Lean: change.Do. Its conditions: none. -/
import Derived.Test.YtaodaihoglcinacMDo
import Derived.Test.YtaodaihoglcinacPRunL
namespace Go.Proofs.Ytaodaihoglcinac
set_option linter.unusedVariables false
set_option linter.unusedSimpArgs false
theorem seq_dec (x y : ByteArray) : seq x y = decide (x = y) := by rw [Bool.eq_iff_iff, seq_iff, decide_eq_true_eq]
variable {F : Nat} [Big F]
/-- A fold that may be left. -/
def foldE {α τ ε : Type} (st : τ → α → τ ⊕ ε) (a : τ) : List α → τ ⊕ ε
  | [] => .inl a
  | e :: l => match st a e with
    | .inl a' => foldE st a' l
    | .inr r => .inr r
theorem loop_foldE {α τ ε ρ : Type} {f : τ × Int → Option ((τ × Int) ⊕ ρ)} (l : List α) (st : τ → α → τ ⊕ ε) (bad : ε → ρ) (fin : τ → ρ) (a0 : τ) (hn : l.length ≤ 9223372036854775807) {s : τ × Int} (h0 : s = (a0, 0))
    (hs : ∀ (k : Nat) (e : α) (a : τ), l[k]? = some e → f (a, (k : Int)) = some (match st a e with | .inl a' => .inl (a', (k : Int) + 1) | .inr r => .inr (bad r)))
    (he : ∀ a, f (a, (l.length : Int)) = some (.inr (fin a))) : iter f F s = some (match foldE st a0 l with | .inl a => fin a | .inr r => bad r) := by
  subst h0
  have key : ∀ (m k N : Nat) (a : τ), k + m = l.length → m < N → iter f N (a, (k : Int)) = some (match foldE st a (l.drop k) with | .inl a => fin a | .inr r => bad r) := by
    intro m
    induction m with
    | zero =>
      intro k N a hk hN
      obtain ⟨N, rfl⟩ : ∃ M, N = M + 1 := ⟨N - 1, by omega⟩
      rw [iter, show k = l.length by omega, he, List.drop_length]; rfl
    | succ m ih =>
      intro k N a hk hN
      obtain ⟨N, rfl⟩ : ∃ M, N = M + 1 := ⟨N - 1, by omega⟩
      have hkl : k < l.length := by omega
      rw [iter, hs k l[k] a (List.getElem?_eq_getElem hkl), List.drop_eq_getElem_cons hkl, foldE]
      cases hst : st a l[k] with
      | inl a' => exact ih (k + 1) N a' (by omega) (by omega)
      | inr r => rfl
  exact key l.length 0 F a0 (by omega) (lt_big hn)
def doStep (t : Int) (m : List DElem) (c : DChange) : List DElem ⊕ Int :=
  match c.has with
  | true => if putE m c.key c.is_ t = 0 then .inl (putR m c.key c.is_ t) else .inr (putE m c.key c.is_ t)
  | false => if cutE m c.key t = 0 then .inl (cutR m c.key t) else .inr (cutE m c.key t)
theorem do_fold : ∀ {cs : List DChange} {m : List DElem} {t : Int}, (∀ c ∈ cs, chkK c.key = 0 ∧ (c.was.size ≤ 40 ∧ c.is_.size ≤ 40) ∧ FormC c ∧ differs c = true) → cs.Pairwise KeyLt → DoPre m cs t →
    foldE (doStep t) m cs = .inr 8 ∨ ∃ n, foldE (doStep t) m cs = .inl n ∧ DoSpec m cs t n
  | [], m, t, _, _, h => .inr ⟨m, rfl, DoSpec.nil h⟩
  | c :: cs, m, t, hc, g, h => by
    obtain ⟨k1, k2, k3, k4⟩ := hc c (by simp)
    have g' := (List.pairwise_cons.1 g).2
    have hc' : ∀ d ∈ cs, chkK d.key = 0 ∧ (d.was.size ≤ 40 ∧ d.is_.size ≤ 40) ∧ FormC d ∧ differs d = true := fun d hd => hc d (by simp [hd])
    rw [foldE]
    by_cases hh : c.has = true
    · by_cases hlen : (putR m c.key c.is_ t).length ≤ 400
      · have hz : putE m c.key c.is_ t = 0 := putE_zero.2 ⟨h.run, chkE_new k1 h.lo h.hi k2.2, h.last, hlen⟩
        have hst : doStep t m c = .inl (putR m c.key c.is_ t) := by unfold doStep; rw [hh]; dsimp only; rw [if_pos hz]
        rw [hst]
        dsimp only
        rcases do_fold hc' g' (do_put g h k1 k2.2 hlen) with h1 | ⟨n, h1, h2⟩
        · exact .inl h1
        · refine .inr ⟨n, h1, h2.cons g ?_ fun k hk => hist_put_other h.run hk⟩
          rw [hist_put]; unfold doH; dsimp only; rw [if_pos hh]
      · have hz : putE m c.key c.is_ t = 8 := by
          unfold putE
          rw [if_neg (by simpa using chkR_run h.run), if_neg (by simpa using chkE_new k1 h.lo h.hi k2.2), if_neg (by have := h.last; omega), if_pos (by omega)]
        have hst : doStep t m c = .inr 8 := by unfold doStep; rw [hh]; dsimp only; rw [hz]; rfl
        rw [hst]
        exact .inl rfl
    · have hf : c.has = false := by simpa using hh
      obtain ⟨e, he⟩ := do_had k3 k4 hf (h.had c (by simp))
      have hz : cutE m c.key t = 0 := cutE_zero.2 ⟨h.run, k1, h.lo, h.hi, h.last, by rw [he]; rfl⟩
      have hst : doStep t m c = .inl (cutR m c.key t) := by unfold doStep; rw [hf]; dsimp only; rw [if_pos hz]
      rw [hst]
      dsimp only
      rcases do_fold hc' g' (do_cut g h) with h1 | ⟨n, h1, h2⟩
      · exact .inl h1
      · refine .inr ⟨n, h1, h2.cons g ?_ fun k hk => hist_cut_other h.run hk⟩
        rw [hist_cut h.run]; unfold doH; dsimp only; rw [if_neg hh]
/-- What change.Do answers. -/
theorem vAt_E {l : List DElem} (h : Run l) {k : DKey} (hk : chkK k = 0) (t : Int) : atE l k t = (if vAt l k t = none then 4 else 0) ∧ (atV l k t).val = (vAt l k t).getD e0 := by
  rw [atE_run h hk, atV_run h hk]
  unfold vAt
  cases atR l k t <;> exact ⟨rfl, rfl⟩
/-- Two readings of one value. -/
theorem at_val {l m : List DElem} (hl : Run l) (hm : Run m) {k : DKey} {t u : Int} (h : vAt l k t = vAt m k u) : atE l k t = atE m k u ∧ (atV l k t).val = (atV m k u).val := by
  by_cases hk : chkK k = 0
  · have h1 := vAt_E hl hk t
    have h2 := vAt_E hm hk u
    rw [h1.1, h1.2, h2.1, h2.2, h]; exact ⟨rfl, rfl⟩
  · have h1 := at_bad hk hl t
    have h2 := at_bad hk hm u
    rw [h1.1, h1.2, h2.1, h2.2]; exact ⟨rfl, rfl⟩
end Go.Proofs.Ytaodaihoglcinac
