/- Plain Lean: change.Do. Its conditions: none. -/
import Derived.Test.YtiaoncjkfgebdaaMDo
import Derived.Test.YtiaoncjkfgebdaaPChangeL
namespace Go.Proofs.Ytiaoncjkfgebdaa
set_option linter.unusedVariables false
set_option linter.unusedSimpArgs false
variable {F : Nat} [Big F]
/-- A fold that may be left. -/
def foldE {α τ ε : Type} (st : τ → α → τ ⊕ ε) (a : τ) : List α → τ ⊕ ε
  | [] => .inl a
  | e :: l => match st a e with
    | .inl a' => foldE st a' l
    | .inr r => .inr r
theorem loop_foldE {α τ ε ρ : Type} {f : τ × Int → Option ((τ × Int) ⊕ ρ)} (l : List α) (st : τ → α → τ ⊕ ε) (bad : ε → ρ) (fin : τ → ρ) (a0 : τ) (hn : l.length ≤ 9223372036854775807) {s : τ × Int} (h0 : s = (a0, 0))
    (hs : ∀ (k : Nat) (e : α) (a : τ), l[k]? = some e → f (a, (k : Int)) = some (match st a e with | .inl a' => .inl (a', (k : Int) + 1) | .inr r => .inr (bad r)))
    (he : ∀ a, f (a, (l.length : Int)) = some (.inr (fin a))) : iter f F s = some (match foldE st a0 l with | .inl a => fin a | .inr r => bad r) := by
  subst h0
  have key : ∀ (m k N : Nat) (a : τ), k + m = l.length → m < N → iter f N (a, (k : Int)) = some (match foldE st a (l.drop k) with | .inl a => fin a | .inr r => bad r) := by
    intro m
    induction m with
    | zero =>
      intro k N a hk hN
      obtain ⟨N, rfl⟩ : ∃ M, N = M + 1 := ⟨N - 1, by omega⟩
      rw [iter, show k = l.length by omega, he, List.drop_length]; rfl
    | succ m ih =>
      intro k N a hk hN
      obtain ⟨N, rfl⟩ : ∃ M, N = M + 1 := ⟨N - 1, by omega⟩
      have hkl : k < l.length := by omega
      rw [iter, hs k l[k] a (List.getElem?_eq_getElem hkl), List.drop_eq_getElem_cons hkl, foldE]
      cases hst : st a l[k] with
      | inl a' => exact ih (k + 1) N a' (by omega) (by omega)
      | inr r => rfl
  exact key l.length 0 F a0 (by omega) (lt_big hn)
def doStep (t : Int) (m : List DElem) (c : DChange) : List DElem ⊕ Int :=
  match c.has with
  | true => if putE m c.key c.is_ t = 0 then .inl (putR m c.key c.is_ t) else .inr (putE m c.key c.is_ t)
  | false => if cutE m c.key t = 0 then .inl (cutR m c.key t) else .inr (cutE m c.key t)
theorem do_fold : ∀ {cs : List DChange} {m : List DElem} {t : Int}, (∀ c ∈ cs, chkK c.key = 0 ∧ (c.was.size ≤ 40 ∧ c.is_.size ≤ 40) ∧ FormC c ∧ differs c = true) → cs.Pairwise KeyLt → DoPre m cs t →
    foldE (doStep t) m cs = .inr 8 ∨ ∃ n, foldE (doStep t) m cs = .inl n ∧ DoSpec m cs t n
  | [], m, t, _, _, h => .inr ⟨m, rfl, DoSpec.nil h⟩
  | c :: cs, m, t, hc, g, h => by
    obtain ⟨k1, k2, k3, k4⟩ := hc c (by simp)
    have g' := (List.pairwise_cons.1 g).2
    have hc' : ∀ d ∈ cs, chkK d.key = 0 ∧ (d.was.size ≤ 40 ∧ d.is_.size ≤ 40) ∧ FormC d ∧ differs d = true := fun d hd => hc d (by simp [hd])
    rw [foldE]
    by_cases hh : c.has = true
    · by_cases hlen : (putR m c.key c.is_ t).length ≤ 400
      · have hz : putE m c.key c.is_ t = 0 := putE_zero.2 ⟨h.run, chkE_new k1 h.lo h.hi k2.2, h.last, hlen⟩
        have hst : doStep t m c = .inl (putR m c.key c.is_ t) := by unfold doStep; rw [hh]; dsimp only; rw [if_pos hz]
        rw [hst]
        dsimp only
        rcases do_fold hc' g' (do_put g h k1 k2.2 hlen) with h1 | ⟨n, h1, h2⟩
        · exact .inl h1
        · refine .inr ⟨n, h1, h2.cons g ?_ fun k hk => hist_put_other h.run hk⟩
          rw [hist_put]; unfold doH; dsimp only; rw [if_pos hh]
      · have hz : putE m c.key c.is_ t = 8 := by
          unfold putE
          rw [if_neg (by simpa using chkR_run h.run), if_neg (by simpa using chkE_new k1 h.lo h.hi k2.2), if_neg (by have := h.last; omega), if_pos (by omega)]
        have hst : doStep t m c = .inr 8 := by unfold doStep; rw [hh]; dsimp only; rw [hz]; rfl
        rw [hst]
        exact .inl rfl
    · have hf : c.has = false := by simpa using hh
      obtain ⟨e, he⟩ := do_had k3 k4 hf (h.had c (by simp))
      have hz : cutE m c.key t = 0 := cutE_zero.2 ⟨h.run, k1, h.lo, h.hi, h.last, by rw [he]; rfl⟩
      have hst : doStep t m c = .inl (cutR m c.key t) := by unfold doStep; rw [hf]; dsimp only; rw [if_pos hz]
      rw [hst]
      dsimp only
      rcases do_fold hc' g' (do_cut g h) with h1 | ⟨n, h1, h2⟩
      · exact .inl h1
      · refine .inr ⟨n, h1, h2.cons g ?_ fun k hk => hist_cut_other h.run hk⟩
        rw [hist_cut h.run]; unfold doH; dsimp only; rw [if_neg hh]
/-- What change.Do answers. -/
theorem change_Do_eq (l : List DElem) (cs : List DChange) (t : Int) :
    (chkR l ≠ 0 ∧ change_Do F l cs t = some ([], chkR l)) ∨ (chkR l = 0 ∧ chkC cs ≠ 0 ∧ change_Do F l cs t = some ([], chkC cs)) ∨
    (Run l ∧ GoodC cs ∧ (((t < 1 ∨ 2147483647 < t ∨ t < lastL l) ∧ change_Do F l cs t = some ([], 9)) ∨
      (1 ≤ t ∧ t ≤ 2147483647 ∧ lastL l ≤ t ∧ (((∃ c ∈ cs, nowV l c.key ≠ fr c) ∧ change_Do F l cs t = some ([], 1)) ∨
        ((∀ c ∈ cs, nowV l c.key = fr c) ∧ change_Do F l cs t = some (match foldE (doStep t) l cs with | .inl m => (m, 0) | .inr r => ([], r)) ∧ (change_Do F l cs t = some ([], 8) ∨ ∃ m, DoSpec l cs t m ∧ change_Do F l cs t = some (m, 0))))))) := by
  unfold change_Do
  rw [run_Check_eq, Option.bind_some, change_Check_eq, Option.bind_some, run_Last_eq, Option.bind_some]
  by_cases h1 : chkR l = 0
  · right
    rw [bne0_false h1, cond_false]
    by_cases h2 : chkC cs = 0
    · right
      have hr := chkR_zero.1 h1
      have gc := chkC_zero.1 h2
      have hlen := hr.len
      have hclen := gc.len
      refine ⟨hr, gc, ?_⟩
      rw [bne0_false h2, cond_false, if_pos h1]
      by_cases h3 : t < 1 ∨ 2147483647 < t ∨ t < lastL l
      · left
        refine ⟨h3, ?_⟩
        rw [show (decide (t < 1) || (decide ((2147483647 : Int) < t) || decide (t < lastL l))) = true by simpa using h3, cond_true]
      · right
        refine ⟨by omega, by omega, by omega, ?_⟩
        rw [show (decide (t < 1) || (decide ((2147483647 : Int) < t) || decide (t < lastL l))) = false by simpa using h3, cond_false]
        rw [loop_first cs (fun c => if nowV l c.key = fr c then none else some (Sum.inr ([], (1 : Int)))) (Sum.inl ()) (by omega) rfl (fun k c hk => ?_) (by simp)]
        · cases hf : cs.findSome? fun c => if nowV l c.key = fr c then none else some (Sum.inr ([], (1 : Int)) : Unit ⊕ (List DElem × Int)) with
          | some r =>
            left
            obtain ⟨c, hc, hx⟩ := List.exists_of_findSome?_eq_some hf
            split at hx
            · cases hx
            · rename_i hne
              obtain rfl := Option.some.inj hx
              exact ⟨⟨c, hc, hne⟩, rfl⟩
          | none =>
            right
            rw [List.findSome?_eq_none_iff] at hf
            have hhad : ∀ c ∈ cs, nowV l c.key = fr c := fun c hc => by
              have := hf c hc
              split at this
              · assumption
              · cases this
            refine ⟨hhad, ?_⟩
            rw [Option.getD_none, Option.bind_some]
            dsimp only
            rw [grow_ok (by simp; omega) (by simp; omega), Option.bind_some, List.nil_append]
            rw [loop_foldE cs (doStep t) (fun r => Sum.inr ([], r)) (fun m => Sum.inl m) l (by omega) rfl (fun k c m hk => ?_) (fun a => by simp), Option.bind_some]
            · refine ⟨by cases foldE (doStep t) l cs <;> rfl, ?_⟩
              rcases do_fold (fun c hc => ⟨gc.key c hc, gc.val c hc, gc.form c hc, gc.dif c hc⟩) gc.ord (show DoPre l cs t from ⟨hr, by omega, by omega, by omega, hhad⟩) with h4 | ⟨m, h4, h5⟩
              · left; rw [h4]
              · right; refine ⟨m, h5, ?_⟩; rw [h4]
            · have hkl := (List.getElem?_eq_some_iff.1 hk).1
              dsimp only
              rw [decide_eq_true (by omega), cond_true, idx_nat', hk, Option.bind_some, run_Put_eq, run_Cut_eq, w64 (by omega) (by omega)]
              unfold doStep
              cases c.has with
              | true =>
                rw [cond_true, Option.bind_some, Option.bind_some]
                dsimp only
                by_cases hz : putE m c.key c.is_ t = 0
                · rw [bne0_false hz, cond_false, if_pos hz, if_pos hz]
                · rw [bne0_true hz, cond_true, if_neg hz]
              | false =>
                rw [cond_false, Option.bind_some, Option.bind_some]
                dsimp only
                by_cases hz : cutE m c.key t = 0
                · rw [bne0_false hz, cond_false, if_pos hz, if_pos hz]
                · rw [bne0_true hz, cond_true, if_neg hz]
        · have hkl := (List.getElem?_eq_some_iff.1 hk).1
          have hc := List.mem_of_getElem? hk
          rw [decide_eq_true (by omega), cond_true, idx_nat', hk, Option.bind_some, run_At_eq, Option.bind_some, w64 (by omega) (by omega)]
          rw [atE_run hr (gc.key c hc), atV_run hr (gc.key c hc), nowR_at hr hr.last_le]
          have hform := gc.form c hc
          unfold nowV fr
          cases hn : nowR l c.key with
          | none =>
            cases hhad : c.had with
            | false => rw [hform.1 hhad]; simp [seq_dec, zeroE, e0]
            | true => simp
          | some e =>
            cases hhad : c.had with
            | false => simp
            | true =>
              simp only [Option.isNone_some, Option.map_some, Option.getD_some, if_true, Bool.false_eq_true, if_false]
              by_cases he : e.val = c.was
              · rw [seq_dec, decide_eq_true he, if_pos (by rw [he])]; rfl
              · rw [seq_dec, decide_eq_false he, if_neg (fun h => he (Option.some.inj h))]; rfl
    · left
      exact ⟨h1, h2, by rw [bne0_true h2, cond_true]⟩
  · left
    exact ⟨h1, by rw [bne0_true h1, cond_true]⟩
theorem change_Do_is {l : List DElem} {cs : List DChange} {t : Int} (hr : Run l) (gc : GoodC cs) (t0 : 1 ≤ t) (t1 : t ≤ 2147483647) (tl : lastL l ≤ t) (had : ∀ c ∈ cs, nowV l c.key = fr c) :
    change_Do F l cs t = some (match foldE (doStep t) l cs with | .inl m => (m, 0) | .inr r => ([], r)) := by
  rcases change_Do_eq (F := F) l cs t with h3 | h3 | ⟨_, _, ⟨h4, _⟩ | ⟨_, _, _, ⟨⟨x, hx, hne⟩, _⟩ | ⟨_, h5, _⟩⟩⟩
  · exact absurd (chkR_run hr) h3.1
  · exact absurd (chkC_zero.2 gc) h3.2.1
  · omega
  · exact absurd (had x hx) hne
  · exact h5
theorem vAt_E {l : List DElem} (h : Run l) {k : DKey} (hk : chkK k = 0) (t : Int) : atE l k t = (if vAt l k t = none then 4 else 0) ∧ (atV l k t).val = (vAt l k t).getD e0 := by
  rw [atE_run h hk, atV_run h hk]
  unfold vAt
  cases atR l k t <;> exact ⟨rfl, rfl⟩
/-- Two readings of one value. -/
theorem at_val {l m : List DElem} (hl : Run l) (hm : Run m) {k : DKey} {t u : Int} (h : vAt l k t = vAt m k u) : atE l k t = atE m k u ∧ (atV l k t).val = (atV m k u).val := by
  by_cases hk : chkK k = 0
  · have h1 := vAt_E hl hk t
    have h2 := vAt_E hm hk u
    rw [h1.1, h1.2, h2.1, h2.2, h]; exact ⟨rfl, rfl⟩
  · have h1 := at_bad hk hl t
    have h2 := at_bad hk hm u
    rw [h1.1, h1.2, h2.1, h2.2]; exact ⟨rfl, rfl⟩
end Go.Proofs.Ytiaoncjkfgebdaa
