/- Plain Lean: what find.Spot answers. Its conditions: none. -/
import Derived.Test.YtoaopihihccfkaaFindSF
import Derived.Test.YtoaopihihccfkaaMFrom
namespace Go.Proofs.Ytoaopihihccfkaa
set_option linter.unusedVariables false
set_option linter.unusedSimpArgs false
variable {F : Nat} [Big F]

abbrev FlatE := Int × Int × Int × Int × Int × ByteArray
def flatE (e : DElem) : FlatE := (e.key.pfs, e.key.obj, e.key.off, e.made, e.gone, e.val)
def stepS (s : DSpot) (st : FlatE) (e : DElem) : FlatE × Nat := if spotE e = s then (flatE e, 1) else (st, 2)
def spotR (l : List DElem) (s : DSpot) : DElem × Int := match l.head? with
  | none => (zeroE, 4)
  | some e => if spotE e = s then (e, 0) else (zeroE, 4)
theorem find_Spot_bad {t : DTree} (hs : ∀ n ∈ t.nodes, Small n) (hc : chkT F t ≠ 0) (s : DSpot) : find_Spot F t s = some (zeroE, chkT F t) := by
  unfold find_Spot
  rw [tree_Check_eq t hs, Option.bind_some, bne0_true hc, cond_true]; rfl
theorem find_Spot_good {t : DTree} (hs : ∀ n ∈ t.nodes, Small n) {h : Nat} (hg : Good t h) (s : DSpot) : find_Spot F t s = some (spotR ((elemsAt t.nodes h t.root).filter (geB s)) s) := by
  have hz : chkT F t = 0 := chkT_zero.2 ⟨h, hg⟩
  have hlen : ∀ (a : FlatE) (e : DElem), (fun _ : FlatE => 0) (stepS s a e).1 ≤ (fun _ : FlatE => 0) a + 1 := fun _ _ => Nat.zero_le _
  unfold find_Spot
  rw [tree_Check_eq t hs, Option.bind_some, bne0_false hz, cond_false]
  rw [fix_spec (σ := Int × Int × Int × Int × Int × ByteArray × Int) (fun m x => match x with | (x1, x2, x3, x4, x5, x6, x7) => preX t.nodes s (fun _ : FlatE => 0) m ((x1, x2, x3, x4, x5, x6), x7))
    (fun m x => match x with | (x1, x2, x3, x4, x5, x6, x7) => let r := runX (stepS s) (fromF t.nodes s m x7) (x1, x2, x3, x4, x5, x6); (r.2, r.1)) ?h0 ?hstep F _ (preX_root hg s (fun _ => 0) _ rfl)]
  case h0 =>
    rintro ⟨x1, x2, x3, x4, x5, x6, x7⟩ ⟨⟨h, d, s, hm, _⟩, _⟩
    omega
  case hstep =>
    rintro m self ih ⟨x1, x2, x3, x4, x5, x6, x7⟩ hpre
    dsimp only at hpre
    obtain ⟨⟨h0, h1⟩, hkids⟩ := hpre.1.kids hg.chk
    dsimp only at h0 h1 hkids ⊢
    have hmem := nd_mem h0 h1
    obtain ⟨h8, h8'⟩ := small8 (hg.chk _ hmem)
    rw [nd_get h0 h1, Option.bind_some]
    rw [iter_runX (fun st e => if geB s e then stepS s st e else (st, 0)) (nd t.nodes x7).elems (fun (st : FlatE) k => (st.1, st.2.1, st.2.2.1, st.2.2.2.1, st.2.2.2.2.1, st.2.2.2.2.2, k)) Sum.inl (fun st n => Sum.inr (n + 1, st)) (x1, x2, x3, x4, x5, x6) (by omega) rfl ?hs ?he]
    case hs =>
      rintro k e ⟨y1, y2, y3, y4, y5, y6⟩ hk hr
      have hkl := (List.getElem?_eq_some_iff.1 hk).1
      dsimp only
      rw [decide_eq_true (by omega), cond_true, idx_nat', hk, Option.bind_some, elem_Spot_eq, Option.bind_some, key_CmpSpot_eq, Option.bind_some, w64 (by omega) (by omega)]
      unfold geB
      by_cases hge : 0 ≤ cmpS (spotE e) s
      · rw [decide_eq_true hge, cond_true, if_pos rfl, Option.bind_some]
        unfold stepS
        by_cases hn : spotE e = s
        · rw [if_pos hn, show (spotE e == s) = true by simpa using hn]; rfl
        · rw [if_neg hn, show (spotE e == s) = false by simpa using hn]; rfl
      · rw [decide_eq_false hge, cond_false, if_neg (by simp)]; rfl
    case he =>
      rintro ⟨y1, y2, y3, y4, y5, y6⟩ hr
      dsimp only
      rw [decide_eq_false (by omega)]; rfl
    rw [Option.bind_some, runX_filter, fromF]
    cases hb : runX (stepS s) ((nd t.nodes x7).elems.filter (geB s)) (x1, x2, x3, x4, x5, x6) with
    | mk b c =>
      rw [runX_append, hb]
      cases c with
      | succ c => rfl
      | zero =>
        obtain ⟨b1, b2, b3, b4, b5, b6⟩ := b
        dsimp only [natCase]
        rw [if_pos rfl]
        by_cases hk : (nd t.nodes x7).kind = 1
        · rw [if_pos hk, show ((nd t.nodes x7).kind == 1) = true by simpa using hk]; rfl
        · rw [if_neg hk, show ((nd t.nodes x7).kind == 1) = false by simpa using hk, cond_false]
          have hw : wayR (nd t.nodes x7).seps s ≤ (nd t.nodes x7).kids.length := by
            rcases chkN_zero.1 (hg.chk _ hmem) with q | q | q
            · rw [q.2.2.2.1]; exact Nat.zero_le _
            · exact absurd q.1 hk
            · exact way_le q.2 s
          rw [node_Way_eq _ s (hs _ hmem), Option.bind_some, lslice_from hw, Option.bind_some]
          rw [iter_runX (fun st k => runX (stepS s) (fromF t.nodes s m k) st) ((nd t.nodes x7).kids.drop (wayR (nd t.nodes x7).seps s)) (fun (st : FlatE) k => (st.1, st.2.1, st.2.2.1, st.2.2.2.1, st.2.2.2.2.1, st.2.2.2.2.2, k)) Sum.inl (fun st n => Sum.inr (n + 1, st)) (b1, b2, b3, b4, b5, b6) (by rw [List.length_drop]; omega) rfl ?hs2 ?he2]
          case hs2 =>
            rintro k e ⟨y1, y2, y3, y4, y5, y6⟩ hk2 hr
            have hkl := (List.getElem?_eq_some_iff.1 hk2).1
            rw [List.length_drop] at hkl
            dsimp only
            rw [decide_eq_true (by rw [List.length_drop]; omega), cond_true, idx_nat', hk2, Option.bind_some, ih (y1, y2, y3, y4, y5, y6, e) (preX_kid hg.chk hpre hk hlen hb hk2 hr), Option.bind_some, w64 (by omega) (by omega)]
            dsimp only
            cases hc : runX (stepS s) (fromF t.nodes s m e) (y1, y2, y3, y4, y5, y6) with
            | mk y c => cases c <;> rfl
          case he2 =>
            rintro ⟨y1, y2, y3, y4, y5, y6⟩ hr
            dsimp only
            rw [decide_eq_false (by omega)]; rfl
          rw [Option.bind_some, runX_flatMap]
          cases hc : runX (stepS s) (((nd t.nodes x7).kids.drop (wayR (nd t.nodes x7).seps s)).flatMap (fromF t.nodes s m)) (b1, b2, b3, b4, b5, b6) with
          | mk y c => cases c <;> rfl
  rw [Option.bind_some]
  dsimp only
  rw [from_root hg s]
  generalize (elemsAt t.nodes h t.root).filter (geB s) = l
  unfold spotR
  cases l with
  | nil => rfl
  | cons e l =>
    rw [runX]
    unfold stepS
    dsimp only [List.head?]
    by_cases hn : spotE e = s
    · rw [if_pos hn, if_pos hn, if_neg (by simp)]; rfl
    · rw [if_neg hn, if_neg hn, if_neg (by simp)]; rfl
end Go.Proofs.Ytoaopihihccfkaa
