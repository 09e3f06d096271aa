/- Plain Lean: what past.Check and past.At answer. Its conditions: none. -/
import Derived.Test.YtoaopihihccfkaaPastAF
import Derived.Test.YtoaopihihccfkaaMFrom
import Derived.Test.YtoaopihihccfkaaPRun
namespace Go.Proofs.Ytoaopihihccfkaa
set_option linter.unusedVariables false
set_option linter.unusedSimpArgs false
variable {F : Nat} [Big F]

theorem past_Check_good {t : DTree} (hs : ∀ n ∈ t.nodes, Small n) {h : Nat} (hg : Good t h) : past_Check F t = some (chkR (elemsAt t.nodes h t.root)) := by
  unfold past_Check
  rw [tree_All_good hs hg, Option.bind_some]
  dsimp only
  rw [show ((0 : Int) != 0) = false from rfl, cond_false, run_Check_eq]; rfl
abbrev FlatP := Int × Int × Int × Int × Int × ByteArray
def flatP (e : DElem) : FlatP := (e.key.pfs, e.key.obj, e.key.off, e.made, e.gone, e.val)
def stepP (k : DKey) (u : Int) (st : FlatP) (e : DElem) : FlatP × Nat := if e.key ≠ k then (st, 1) else if live e u = true then (flatP e, 2) else (st, 0)
theorem stepP_other {k : DKey} {u : Int} {st : FlatP} {e : DElem} (h : e.key ≠ k) : stepP k u st e = (st, 1) := if_pos h
theorem stepP_live {k : DKey} {u : Int} {st : FlatP} {e : DElem} (h : e.key = k) (hl : live e u = true) : stepP k u st e = (flatP e, 2) := by
  unfold stepP; rw [if_neg (fun h' => h' h), if_pos hl]
theorem stepP_dead {k : DKey} {u : Int} {st : FlatP} {e : DElem} (h : e.key = k) (hl : ¬ live e u = true) : stepP k u st e = (st, 0) := by
  unfold stepP; rw [if_neg (fun h' => h' h), if_neg hl]
theorem key_le {l : List DElem} (hp : l.Pairwise SpO) {i j : Nat} {a b : DElem} (hij : i ≤ j) (ha : l[i]? = some a) (hb : l[j]? = some b) : cmpK a.key b.key ≤ 0 := by
  by_cases e : i = j
  · subst e
    rw [ha] at hb
    obtain rfl := Option.some.inj hb
    rw [cmp_cmpK.refl]; exact Int.le_refl _
  · have := pairwise_at hp (show i < j by omega) ha hb
    unfold SpO at this
    rcases cmpS_lt.1 this with h | ⟨h, _⟩
    · exact Int.le_of_lt h
    · unfold spotE at h
      dsimp only at h
      rw [h, cmp_cmpK.refl]; exact Int.le_refl _
theorem runP_eq (k : DKey) (u : Int) : ∀ (l : List DElem), l.Pairwise SpO → (∀ e ∈ l, 0 ≤ cmpK e.key k) → ∀ a : FlatP, (∃ e, l.find? (fun e => e.key == k && live e u) = some e ∧ runX (stepP k u) l a = (flatP e, 2)) ∨ (l.find? (fun e => e.key == k && live e u) = none ∧ ∃ c, c ≤ 1 ∧ runX (stepP k u) l a = (a, c)) := by
  intro l
  induction l with
  | nil => intro _ _ a; exact .inr ⟨rfl, 0, by omega, rfl⟩
  | cons e l ih =>
    intro hp hk a
    rw [runX]
    by_cases he : e.key = k
    · have hb : (e.key == k) = true := by simpa using he
      rw [List.find?_cons, hb]
      by_cases hl : live e u = true
      · left
        rw [stepP_live he hl, if_neg (by simp), hl]
        exact ⟨e, rfl, rfl⟩
      · rw [stepP_dead he hl, if_pos rfl, show live e u = false by simpa using hl]
        exact ih (List.pairwise_cons.1 hp).2 (fun x hx => hk x (List.mem_cons_of_mem _ hx)) a
    · right
      rw [stepP_other he, if_neg (by simp)]
      refine ⟨?_, 1, Nat.le_refl _, rfl⟩
      rw [List.find?_eq_none]
      intro x hx hq
      have hxk : x.key = k := by
        have := (Bool.and_eq_true_iff.1 hq).1
        simpa using this
      have h1 := hk e List.mem_cons_self
      obtain ⟨j, hj⟩ := List.mem_iff_getElem?.1 hx
      have h2 := key_le hp (i := 0) (j := j) (Nat.zero_le _) rfl hj
      rw [hxk] at h2
      exact he ((cmp_cmpK.zero _ _).1 (by omega))
theorem atR_from {l : List DElem} (ho : ∀ e ∈ l, chkE e = 0) (k : DKey) (u : Int) : (l.filter (geB ⟨k, 0⟩)).find? (fun e => e.key == k && live e u) = atR l k u := by
  unfold atR
  rw [List.find?_filter]
  have : ∀ m : List DElem, (∀ e ∈ m, e ∈ l) → m.find? (fun a => decide (geB ⟨k, 0⟩ a = true ∧ (a.key == k && live a u) = true)) = m.find? fun e => e.key == k && live e u := by
    intro m
    induction m with
    | nil => intro _; rfl
    | cons e m ih =>
      intro hm
      rw [List.find?_cons, List.find?_cons, ih fun x hx => hm x (List.mem_cons_of_mem _ hx)]
      by_cases hk : e.key = k
      · obtain ⟨_, h1, _⟩ := chkE_ok (ho e (hm e List.mem_cons_self))
        have hge : geB ⟨k, 0⟩ e = true := by
          refine decide_eq_true ?_
          have h2 := cmp_cmpS.neg (spotE e) ⟨k, 0⟩
          have : cmpS ⟨k, 0⟩ (spotE e) < 0 := cmpS_lt.2 (.inr ⟨hk.symm, by show (0 : Int) < e.made; omega⟩)
          omega
        have hd : decide (geB ⟨k, 0⟩ e = true ∧ (e.key == k && live e u) = true) = (e.key == k && live e u) := by cases hq : (e.key == k && live e u) <;> simp [hge]
        rw [hd]
      · have : (e.key == k) = false := by simpa using hk
        rw [this]; simp
  first
  | exact this l fun e he => he
  | (simp only [Bool.decide_and, Bool.decide_eq_true] at this; exact this l fun e he => he)
theorem from_keys {l : List DElem} {k : DKey} : ∀ e ∈ l.filter (geB ⟨k, 0⟩), 0 ≤ cmpK e.key k := fun e he => by
  have h1 := (List.mem_filter.1 he).2
  unfold geB at h1
  have h1 := of_decide_eq_true h1
  by_cases h : cmpK e.key k < 0
  · have : cmpS (spotE e) ⟨k, 0⟩ < 0 := cmpS_lt.2 (.inl h)
    omega
  · omega
theorem past_At_good {t : DTree} (hs : ∀ n ∈ t.nodes, Small n) {h : Nat} (hg : Good t h) (k : DKey) (u : Int) : past_At F t k u = some (atV (elemsAt t.nodes h t.root) k u, atE (elemsAt t.nodes h t.root) k u) := by
  have hlen : ∀ (a : FlatP) (e : DElem), (fun _ : FlatP => 0) (stepP k u a e).1 ≤ (fun _ : FlatP => 0) a + 1 := fun _ _ => Nat.zero_le _
  unfold past_At atE atV
  rw [past_Check_good hs hg, Option.bind_some]
  by_cases hr : chkR (elemsAt t.nodes h t.root) = 0
  rotate_left
  · rw [bne0_true hr, cond_true, if_neg (fun h => hr h.1), if_pos hr]; rfl
  rw [bne0_false hr, cond_false, key_Check_eq, Option.bind_some, if_neg (show ¬ chkR (elemsAt t.nodes h t.root) ≠ 0 by simpa using hr)]
  by_cases hk : chkK k = 0
  rotate_left
  · rw [bne0_true hk, cond_true, if_neg (fun h => hk h.2), if_pos hk]; rfl
  rw [bne0_false hk, cond_false, if_pos (show chkR (elemsAt t.nodes h t.root) = 0 ∧ chkK k = 0 from ⟨hr, hk⟩), if_neg (show ¬ chkK k ≠ 0 by simpa using hk)]
  rw [fix_spec (σ := Int × Int × Int × Int × Int × ByteArray × Int) (fun m x => match x with | (x1, x2, x3, x4, x5, x6, x7) => preX t.nodes ⟨k, 0⟩ (fun _ : FlatP => 0) m ((x1, x2, x3, x4, x5, x6), x7))
    (fun m x => match x with | (x1, x2, x3, x4, x5, x6, x7) => let r := runX (stepP k u) (fromF t.nodes ⟨k, 0⟩ m x7) (x1, x2, x3, x4, x5, x6); (r.2, r.1)) ?h0 ?hstep F _ (preX_root hg ⟨k, 0⟩ (fun _ => 0) _ rfl)]
  case h0 =>
    rintro ⟨x1, x2, x3, x4, x5, x6, x7⟩ ⟨⟨h, d, s, hm, _⟩, _⟩
    omega
  case hstep =>
    rintro m self ih ⟨x1, x2, x3, x4, x5, x6, x7⟩ hpre
    dsimp only at hpre
    obtain ⟨⟨h0, h1⟩, hkids⟩ := hpre.1.kids hg.chk
    dsimp only at h0 h1 hkids ⊢
    have hmem := nd_mem h0 h1
    obtain ⟨h8, h8'⟩ := small8 (hg.chk _ hmem)
    rw [nd_get h0 h1, Option.bind_some]
    rw [iter_runX (fun st e => if geB ⟨k, 0⟩ e then stepP k u st e else (st, 0)) (nd t.nodes x7).elems (fun (st : FlatP) j => (st.1, st.2.1, st.2.2.1, st.2.2.2.1, st.2.2.2.2.1, st.2.2.2.2.2, j)) Sum.inl (fun st n => Sum.inr (n + 1, st)) (x1, x2, x3, x4, x5, x6) (by omega) rfl ?hs ?he]
    case hs =>
      rintro j e ⟨y1, y2, y3, y4, y5, y6⟩ hj hr
      have hkl := (List.getElem?_eq_some_iff.1 hj).1
      dsimp only
      rw [decide_eq_true (by omega), cond_true, idx_nat', hj, Option.bind_some, elem_Spot_eq, Option.bind_some, key_CmpSpot_eq, Option.bind_some, w64 (by omega) (by omega)]
      unfold geB
      by_cases hge : 0 ≤ cmpS (spotE e) ⟨k, 0⟩
      · rw [decide_eq_true hge, cond_true, if_pos rfl]
        unfold stepP
        by_cases hn : e.key = k
        · rw [if_neg (show ¬ e.key ≠ k by simpa using hn), show (!(e.key == k)) = false by simpa using hn, cond_false, elem_Live_eq, Option.bind_some]
          cases live e u <;> rfl
        · rw [if_pos hn, show (!(e.key == k)) = true by simpa using hn]; rfl
      · rw [decide_eq_false hge, cond_false, if_neg (by simp)]; rfl
    case he =>
      rintro ⟨y1, y2, y3, y4, y5, y6⟩ hr
      dsimp only
      rw [decide_eq_false (by omega)]; rfl
    rw [Option.bind_some, runX_filter, fromF]
    cases hb : runX (stepP k u) ((nd t.nodes x7).elems.filter (geB ⟨k, 0⟩)) (x1, x2, x3, x4, x5, x6) with
    | mk b c =>
      rw [runX_append, hb]
      cases c with
      | succ c => rfl
      | zero =>
        obtain ⟨b1, b2, b3, b4, b5, b6⟩ := b
        dsimp only [natCase]
        rw [if_pos rfl]
        by_cases hkd : (nd t.nodes x7).kind = 1
        · rw [if_pos hkd, show ((nd t.nodes x7).kind == 1) = true by simpa using hkd]; rfl
        · rw [if_neg hkd, show ((nd t.nodes x7).kind == 1) = false by simpa using hkd, cond_false]
          have hw : wayR (nd t.nodes x7).seps ⟨k, 0⟩ ≤ (nd t.nodes x7).kids.length := by
            rcases chkN_zero.1 (hg.chk _ hmem) with q | q | q
            · rw [q.2.2.2.1]; exact Nat.zero_le _
            · exact absurd q.1 hkd
            · exact way_le q.2 ⟨k, 0⟩
          rw [node_Way_eq _ ⟨k, 0⟩ (hs _ hmem), Option.bind_some, lslice_from hw, Option.bind_some]
          rw [iter_runX (fun st j => runX (stepP k u) (fromF t.nodes ⟨k, 0⟩ m j) st) ((nd t.nodes x7).kids.drop (wayR (nd t.nodes x7).seps ⟨k, 0⟩)) (fun (st : FlatP) j => (st.1, st.2.1, st.2.2.1, st.2.2.2.1, st.2.2.2.2.1, st.2.2.2.2.2, j)) Sum.inl (fun st n => Sum.inr (n + 1, st)) (b1, b2, b3, b4, b5, b6) (by rw [List.length_drop]; omega) rfl ?hs2 ?he2]
          case hs2 =>
            rintro j e ⟨y1, y2, y3, y4, y5, y6⟩ hk2 hr
            have hkl := (List.getElem?_eq_some_iff.1 hk2).1
            rw [List.length_drop] at hkl
            dsimp only
            rw [decide_eq_true (by rw [List.length_drop]; omega), cond_true, idx_nat', hk2, Option.bind_some, ih (y1, y2, y3, y4, y5, y6, e) (preX_kid hg.chk hpre hkd hlen hb hk2 hr), Option.bind_some, w64 (by omega) (by omega)]
            dsimp only
            cases hc : runX (stepP k u) (fromF t.nodes ⟨k, 0⟩ m e) (y1, y2, y3, y4, y5, y6) with
            | mk y c => cases c <;> rfl
          case he2 =>
            rintro ⟨y1, y2, y3, y4, y5, y6⟩ hr
            dsimp only
            rw [decide_eq_false (by omega)]; rfl
          rw [Option.bind_some, runX_flatMap]
          cases hc : runX (stepP k u) (((nd t.nodes x7).kids.drop (wayR (nd t.nodes x7).seps ⟨k, 0⟩)).flatMap (fromF t.nodes ⟨k, 0⟩ m)) (b1, b2, b3, b4, b5, b6) with
          | mk y c => cases c <;> rfl
  rw [Option.bind_some]
  dsimp only
  rw [from_root hg ⟨k, 0⟩]
  obtain ⟨hsort, hall⟩ := elems_sorted hg.chk h t.root 0 topS hg.ok
  have hat := atR_from (fun e he => (hall e he).2) k u (l := elemsAt t.nodes h t.root)
  rcases runP_eq k u _ (hsort.filter _) from_keys (0, 0, 0, 0, 0, ByteArray.mk #[]) with ⟨e, h1, h2⟩ | ⟨h1, c, hc, h2⟩
  · rw [h2, ← hat, h1]; rfl
  · rw [h2, ← hat, h1]
    have : c = 0 ∨ c = 1 := by omega
    rcases this with rfl | rfl <;> rfl
end Go.Proofs.Ytoaopihihccfkaa
