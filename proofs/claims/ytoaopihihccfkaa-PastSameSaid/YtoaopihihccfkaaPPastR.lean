/- Plain Lean: what past.Range answers. Its conditions: none. -/
import Derived.Test.YtoaopihihccfkaaPastRF
import Derived.Test.YtoaopihihccfkaaPPastA
import Derived.Test.YtoaopihihccfkaaPRange
namespace Go.Proofs.Ytoaopihihccfkaa
set_option linter.unusedVariables false
set_option linter.unusedSimpArgs false
variable {F : Nat} [Big F]

def stepG (b : DKey) (u : Int) (st : List DElem) (e : DElem) : List DElem × Nat := if 0 < cmpK e.key b then (st, 1) else if live e u = true then (st ++ [e], 0) else (st, 0)
theorem stepG_len (b : DKey) (u : Int) (st : List DElem) (e : DElem) : (stepG b u st e).1.length ≤ st.length + 1 := by
  unfold stepG; split
  · simp
  · split <;> simp
theorem runG_eq (b : DKey) (u : Int) : ∀ (l : List DElem), l.Pairwise SpO → ∀ a : List DElem, (runX (stepG b u) l a).1 = a ++ l.filter fun e => decide (cmpK e.key b ≤ 0) && live e u := by
  intro l
  induction l with
  | nil => intro _ a; simp [runX]
  | cons e l ih =>
    intro hp a
    rw [runX]
    unfold stepG
    by_cases he : 0 < cmpK e.key b
    · rw [if_pos he, if_neg (by simp)]
      have : (e :: l).filter (fun e => decide (cmpK e.key b ≤ 0) && live e u) = [] := by
        rw [List.filter_eq_nil_iff]
        intro x hx hq
        obtain ⟨j, hj⟩ := List.mem_iff_getElem?.1 hx
        have h2 := key_le hp (i := 0) (j := j) (Nat.zero_le _) rfl hj
        have h3 : cmpK x.key b ≤ 0 := of_decide_eq_true (Bool.and_eq_true_iff.1 hq).1
        have := cmp_cmpK.trans _ _ _ h2 h3
        omega
      rw [this, List.append_nil]
    · rw [if_neg he]
      have hih := ih (List.pairwise_cons.1 hp).2
      unfold stepG at hih
      have hd : decide (cmpK e.key b ≤ 0) = true := decide_eq_true (by omega)
      by_cases hl : live e u = true
      · rw [if_pos hl, if_pos rfl]
        dsimp only
        rw [hih, List.filter_cons_of_pos (by rw [hd, hl]; rfl), List.append_assoc]; rfl
      · rw [if_neg hl, if_pos rfl]
        dsimp only
        rw [hih, List.filter_cons_of_neg (by simp [hl])]
theorem past_Range_good {t : DTree} (hs : ∀ n ∈ t.nodes, Small n) {h : Nat} (hg : Good t h) (p b : DKey) (u : Int) : past_Range F t p b u = some (rangeR (elemsAt t.nodes h t.root) p b u, rangeE (elemsAt t.nodes h t.root) p b) := by
  unfold past_Range
  rw [past_Check_good hs hg, Option.bind_some]
  by_cases hr : chkR (elemsAt t.nodes h t.root) = 0
  rotate_left
  · have hz : rangeE (elemsAt t.nodes h t.root) p b = chkR (elemsAt t.nodes h t.root) := by unfold rangeE; rw [if_pos hr]
    rw [bne0_true hr, cond_true, hz]
    unfold rangeR
    rw [hz, if_neg hr]
  rw [bne0_false hr, cond_false, key_Check_eq, Option.bind_some]
  by_cases hk : chkK p = 0
  rotate_left
  · have hz : rangeE (elemsAt t.nodes h t.root) p b = chkK p := by unfold rangeE; rw [if_neg (by simpa using hr), if_pos hk]
    rw [bne0_true hk, cond_true, hz]
    unfold rangeR
    rw [hz, if_neg hk]
  rw [bne0_false hk, cond_false, key_Check_eq, Option.bind_some]
  by_cases hkb : chkK b = 0
  rotate_left
  · have hz : rangeE (elemsAt t.nodes h t.root) p b = chkK b := by unfold rangeE; rw [if_neg (by simpa using hr), if_neg (by simpa using hk)]
    rw [bne0_true hkb, cond_true, hz]
    unfold rangeR
    rw [hz, if_neg hkb]
  have hz : rangeE (elemsAt t.nodes h t.root) p b = 0 := rangeE_zero.2 ⟨chkR_zero.1 hr, hk, hkb⟩
  rw [bne0_false hkb, cond_false]
  rw [fix_spec (preX t.nodes ⟨p, 0⟩ List.length) (fun m x => runX (stepG b u) (fromF t.nodes ⟨p, 0⟩ m x.2) x.1) ?h0 ?hstep F _ (preX_root hg ⟨p, 0⟩ List.length [] rfl)]
  case h0 =>
    rintro ⟨x1, x2⟩ ⟨⟨h, d, s, hm, _⟩, _⟩
    omega
  case hstep =>
    rintro m self ih ⟨x1, x2⟩ hpre
    obtain ⟨⟨h0, h1⟩, hkids⟩ := hpre.1.kids hg.chk
    dsimp only at h0 h1 hkids ⊢
    have hmem := nd_mem h0 h1
    obtain ⟨h8, h8'⟩ := small8 (hg.chk _ hmem)
    rw [nd_get h0 h1, Option.bind_some]
    rw [iter_runX (fun st e => if geB ⟨p, 0⟩ e then stepG b u st e else (st, 0)) (nd t.nodes x2).elems (fun st k => (st, k)) Sum.inl (fun st n => Sum.inr (st, n + 1)) x1 (by omega) rfl ?hs ?he]
    case hs =>
      intro k e st hk hr
      have hkl := (List.getElem?_eq_some_iff.1 hk).1
      have hlen := preX_elems hpre (stepG_len b u) hk hr
      dsimp only
      rw [decide_eq_true (by omega), cond_true, idx_nat', hk, Option.bind_some, elem_Spot_eq, Option.bind_some, key_CmpSpot_eq, Option.bind_some, w64 (by omega) (by omega)]
      unfold geB
      by_cases hge : 0 ≤ cmpS (spotE e) ⟨p, 0⟩
      · rw [decide_eq_true hge, cond_true, if_pos rfl]
        unfold stepG
        rw [key_Cmp_eq, Option.bind_some]
        by_cases hn : 0 < cmpK e.key b
        · rw [if_pos hn, decide_eq_true hn]; rfl
        · rw [if_neg hn, decide_eq_false hn, cond_false, elem_Live_eq, Option.bind_some, grow_ok (by rw [List.length_singleton]; omega) (by rw [List.length_singleton]; omega)]
          cases live e u <;> rfl
      · rw [decide_eq_false hge, cond_false, if_neg (by simp)]; rfl
    case he =>
      intro st hr
      dsimp only
      rw [decide_eq_false (by omega)]; rfl
    rw [Option.bind_some, runX_filter, fromF]
    cases hb : runX (stepG b u) ((nd t.nodes x2).elems.filter (geB ⟨p, 0⟩)) x1 with
    | mk b' c =>
      rw [runX_append, hb]
      cases c with
      | succ c => rfl
      | zero =>
        dsimp only [natCase]
        rw [if_pos rfl]
        by_cases hk : (nd t.nodes x2).kind = 1
        · rw [if_pos hk, show ((nd t.nodes x2).kind == 1) = true by simpa using hk]; rfl
        · rw [if_neg hk, show ((nd t.nodes x2).kind == 1) = false by simpa using hk, cond_false]
          have hw : wayR (nd t.nodes x2).seps ⟨p, 0⟩ ≤ (nd t.nodes x2).kids.length := by
            rcases chkN_zero.1 (hg.chk _ hmem) with q | q | q
            · rw [q.2.2.2.1]; exact Nat.zero_le _
            · exact absurd q.1 hk
            · exact way_le q.2 ⟨p, 0⟩
          rw [node_Way_eq _ ⟨p, 0⟩ (hs _ hmem), Option.bind_some, lslice_from hw, Option.bind_some]
          rw [iter_runX (fun st k => runX (stepG b u) (fromF t.nodes ⟨p, 0⟩ m k) st) ((nd t.nodes x2).kids.drop (wayR (nd t.nodes x2).seps ⟨p, 0⟩)) (fun st k => (st, k)) Sum.inl (fun st n => Sum.inr (st, n + 1)) b' (by rw [List.length_drop]; omega) rfl ?hs2 ?he2]
          case hs2 =>
            intro k e st hk2 hr
            have hkl := (List.getElem?_eq_some_iff.1 hk2).1
            rw [List.length_drop] at hkl
            dsimp only
            rw [decide_eq_true (by rw [List.length_drop]; omega), cond_true, idx_nat', hk2, Option.bind_some, ih _ (preX_kid hg.chk hpre hk (stepG_len b u) hb hk2 hr), Option.bind_some, w64 (by omega) (by omega)]
            dsimp only
            cases hc : runX (stepG b u) (fromF t.nodes ⟨p, 0⟩ m e) st with
            | mk y c => cases c <;> rfl
          case he2 =>
            intro st hr
            dsimp only
            rw [decide_eq_false (by omega)]; rfl
          rw [Option.bind_some, runX_flatMap]
          cases hc : runX (stepG b u) (((nd t.nodes x2).kids.drop (wayR (nd t.nodes x2).seps ⟨p, 0⟩)).flatMap (fromF t.nodes ⟨p, 0⟩ m)) b' with
          | mk y c => cases c <;> rfl
  rw [Option.bind_some]
  dsimp only
  rw [from_root hg ⟨p, 0⟩]
  obtain ⟨hsort, hall⟩ := elems_sorted hg.chk h t.root 0 topS hg.ok
  have := runG_eq b u ((elemsAt t.nodes h t.root).filter (geB ⟨p, 0⟩)) (hsort.filter _) []
  have hfil : (((elemsAt t.nodes h t.root).filter (geB ⟨p, 0⟩)).filter fun e => decide (cmpK e.key b ≤ 0) && live e u) = (elemsAt t.nodes h t.root).filter (inR p b u) := by
    rw [List.filter_filter]
    refine List.filter_congr fun e he => ?_
    obtain ⟨_, h1, _⟩ := chkE_ok (hall e he).2
    have hge : geB ⟨p, 0⟩ e = decide (cmpK p e.key ≤ 0) := by
      unfold geB
      have n1 := cmp_cmpS.neg (spotE e) ⟨p, 0⟩
      have n2 := cmp_cmpK.neg e.key p
      refine decide_eq_decide.2 ⟨fun hh => ?_, fun hh => ?_⟩
      · by_cases hc : cmpK e.key p < 0
        · have : cmpS (spotE e) ⟨p, 0⟩ < 0 := cmpS_lt.2 (.inl hc)
          omega
        · omega
      · by_cases hc : cmpK p e.key < 0
        · have : cmpS ⟨p, 0⟩ (spotE e) < 0 := cmpS_lt.2 (.inl hc)
          omega
        · have hq : p = e.key := (cmp_cmpK.zero _ _).1 (by omega)
          have : cmpS ⟨p, 0⟩ (spotE e) < 0 := cmpS_lt.2 (.inr ⟨hq, by show (0 : Int) < e.made; omega⟩)
          omega
    unfold inR
    rw [hge, Bool.and_comm, ]
  rw [hfil, List.nil_append] at this
  unfold rangeR
  rw [hz, if_pos rfl]
  cases hrun : runX (stepG b u) ((elemsAt t.nodes h t.root).filter (geB ⟨p, 0⟩)) [] with
  | mk y c =>
    rw [hrun] at this
    dsimp only at this
    subst this
    cases c <;> rfl
end Go.Proofs.Ytoaopihihccfkaa
