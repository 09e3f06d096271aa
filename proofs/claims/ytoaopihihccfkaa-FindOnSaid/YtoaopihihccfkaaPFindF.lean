/- Plain Lean: what find.From answers. Its conditions: none. -/
import Derived.Test.YtoaopihihccfkaaFindFF
import Derived.Test.YtoaopihihccfkaaMFrom
namespace Go.Proofs.Ytoaopihihccfkaa
set_option linter.unusedVariables false
set_option linter.unusedSimpArgs false
variable {F : Nat} [Big F]

def stepF (n : Int) (st : List DElem) (e : DElem) : List DElem × Nat := if (st.length : Int) = n then (st, 1) else (st ++ [e], 0)
theorem stepF_len (n : Int) (st : List DElem) (e : DElem) : (stepF n st e).1.length ≤ st.length + 1 := by
  unfold stepF; split <;> simp
theorem runF_eq (n : Nat) : ∀ (l : List DElem) (a : List DElem), a.length ≤ n → (runX (stepF (n : Int)) l a).1 = a ++ l.take (n - a.length) := by
  intro l
  induction l with
  | nil => intro a _; simp [runX]
  | cons e l ih =>
    intro a ha
    rw [runX]
    unfold stepF
    by_cases h : (a.length : Int) = (n : Int)
    · rw [if_pos h, if_neg (by simp), show n - a.length = 0 by omega]; simp
    · rw [if_neg h, if_pos rfl]
      show (runX (stepF (n : Int)) l (a ++ [e])).1 = _
      rw [ih _ (by rw [List.length_append, List.length_singleton]; omega), List.append_assoc, List.length_append, List.length_singleton]
      obtain ⟨q, hq⟩ : ∃ q, n - a.length = q + 1 := ⟨n - a.length - 1, by omega⟩
      rw [hq, show n - (a.length + 1) = q by omega]; rfl
theorem find_From_bad {t : DTree} (hs : ∀ n ∈ t.nodes, Small n) (hc : chkT F t ≠ 0) (s : DSpot) (n : Int) : find_From F t s n = some ([], chkT F t) := by
  unfold find_From
  rw [tree_Check_eq t hs, Option.bind_some, bne0_true hc, cond_true]
theorem find_From_good {t : DTree} (hs : ∀ n ∈ t.nodes, Small n) {h : Nat} (hg : Good t h) (s : DSpot) (n : Nat) : find_From F t s (n : Int) = some (((elemsAt t.nodes h t.root).filter (geB s)).take n, 0) := by
  have hz : chkT F t = 0 := chkT_zero.2 ⟨h, hg⟩
  unfold find_From
  rw [tree_Check_eq t hs, Option.bind_some, bne0_false hz, cond_false, show decide ((n : Int) < 0) = false from decide_eq_false (by omega), cond_false]
  rw [fix_spec (preX t.nodes s List.length) (fun m x => runX (stepF n) (fromF t.nodes s m x.2) x.1) ?h0 ?hstep F _ (preX_root hg s List.length [] rfl)]
  case h0 =>
    rintro ⟨x1, x2⟩ ⟨⟨h, d, s, hm, _⟩, _⟩
    omega
  case hstep =>
    rintro m self ih ⟨x1, x2⟩ hpre
    obtain ⟨⟨h0, h1⟩, hkids⟩ := hpre.1.kids hg.chk
    dsimp only at h0 h1 hkids ⊢
    have hmem := nd_mem h0 h1
    obtain ⟨h8, h8'⟩ := small8 (hg.chk _ hmem)
    rw [nd_get h0 h1, Option.bind_some]
    rw [iter_runX (fun st e => if geB s e then stepF n st e else (st, 0)) (nd t.nodes x2).elems (fun st k => (st, k)) Sum.inl (fun st n => Sum.inr (st, n + 1)) x1 (by omega) rfl ?hs ?he]
    case hs =>
      intro k e st hk hr
      have hkl := (List.getElem?_eq_some_iff.1 hk).1
      have hlen := preX_elems hpre (stepF_len n) hk hr
      dsimp only
      rw [decide_eq_true (by omega), cond_true, idx_nat', hk, Option.bind_some, elem_Spot_eq, Option.bind_some, key_CmpSpot_eq, Option.bind_some, w64 (by omega) (by omega)]
      unfold geB
      by_cases hge : 0 ≤ cmpS (spotE e) s
      · rw [decide_eq_true hge, cond_true, if_pos rfl]
        unfold stepF
        by_cases hn : (st.length : Int) = (n : Int)
        · rw [if_pos hn, show ((st.length : Int) == (n : Int)) = true by simpa using hn]; rfl
        · rw [if_neg hn, show ((st.length : Int) == (n : Int)) = false by simpa using hn, cond_false, grow_ok (by rw [List.length_singleton]; omega) (by rw [List.length_singleton]; omega)]; rfl
      · rw [decide_eq_false hge, cond_false, if_neg (by simp)]; rfl
    case he =>
      intro st hr
      dsimp only
      rw [decide_eq_false (by omega)]; rfl
    rw [Option.bind_some, runX_filter, fromF]
    cases hb : runX (stepF n) ((nd t.nodes x2).elems.filter (geB s)) x1 with
    | mk b c =>
      rw [runX_append, hb]
      cases c with
      | succ c => rfl
      | zero =>
        dsimp only [natCase]
        rw [if_pos rfl]
        by_cases hk : (nd t.nodes x2).kind = 1
        · rw [if_pos hk, show ((nd t.nodes x2).kind == 1) = true by simpa using hk]; rfl
        · rw [if_neg hk, show ((nd t.nodes x2).kind == 1) = false by simpa using hk, cond_false]
          have hw : wayR (nd t.nodes x2).seps s ≤ (nd t.nodes x2).kids.length := by
            rcases chkN_zero.1 (hg.chk _ hmem) with q | q | q
            · rw [q.2.2.2.1]; exact Nat.zero_le _
            · exact absurd q.1 hk
            · exact way_le q.2 s
          rw [node_Way_eq _ s (hs _ hmem), Option.bind_some, lslice_from hw, Option.bind_some]
          rw [iter_runX (fun st k => runX (stepF n) (fromF t.nodes s m k) st) ((nd t.nodes x2).kids.drop (wayR (nd t.nodes x2).seps s)) (fun st k => (st, k)) Sum.inl (fun st n => Sum.inr (st, n + 1)) b (by rw [List.length_drop]; omega) rfl ?hs2 ?he2]
          case hs2 =>
            intro k e st hk2 hr
            have hkl := (List.getElem?_eq_some_iff.1 hk2).1
            rw [List.length_drop] at hkl
            dsimp only
            rw [decide_eq_true (by rw [List.length_drop]; omega), cond_true, idx_nat', hk2, Option.bind_some, ih _ (preX_kid hg.chk hpre hk (stepF_len n) hb hk2 hr), Option.bind_some, w64 (by omega) (by omega)]
            dsimp only
            cases hc : runX (stepF n) (fromF t.nodes s m e) st with
            | mk y c => cases c <;> rfl
          case he2 =>
            intro st hr
            dsimp only
            rw [decide_eq_false (by omega)]; rfl
          rw [Option.bind_some, runX_flatMap]
          cases hc : runX (stepF n) (((nd t.nodes x2).kids.drop (wayR (nd t.nodes x2).seps s)).flatMap (fromF t.nodes s m)) b with
          | mk y c => cases c <;> rfl
  rw [Option.bind_some]
  dsimp only
  rw [from_root hg s]
  have := runF_eq n ((elemsAt t.nodes h t.root).filter (geB s)) [] (Nat.zero_le _)
  cases hr : runX (stepF (n : Int)) ((elemsAt t.nodes h t.root).filter (geB s)) [] with
  | mk y c =>
    rw [hr] at this
    dsimp only at this
    subst this
    cases c <;> rfl
end Go.Proofs.Ytoaopihihccfkaa
