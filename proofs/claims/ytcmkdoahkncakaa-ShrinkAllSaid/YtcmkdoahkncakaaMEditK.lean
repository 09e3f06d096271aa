/- Plain Lean: lists of nodes of which some are taken out; the kid that a spot leads to. Its conditions: none. -/
import Derived.Test.YtcmkdoahkncakaaMSubK
import Derived.Test.YtcmkdoahkncakaaTreeOK
namespace Go.Proofs.Ytcmkdoahkncakaa
set_option linter.unusedVariables false
set_option linter.unusedSimpArgs false
abbrev NL := List (Int ⊕ DNode)
def zN : DNode := ⟨0, [], [], [], []⟩
def fN1 : Int ⊕ DNode → DNode
 | .inl _ => zN
 | .inr n => n
def fN (N : NL) : List DNode := N.map fN1
theorem fN_length (N : NL) : (fN N).length = N.length := List.length_map ..
theorem fN_get (N : NL) (j : Nat) : (fN N)[j]? = (N[j]?).map fN1 := List.getElem?_map ..
theorem fN_agree {N N' : NL} {j : Nat} (h : N'[j]? = N[j]?) : (fN N')[j]? = (fN N)[j]? := by rw [fN_get, fN_get, h]
theorem fN_inr (l : List DNode) : fN (l.map Sum.inr) = l := by
 unfold fN
 rw [List.map_map]
 exact List.map_id'' (fun _ => rfl) l
theorem outAt_get (N : NL) {i : Int} {j : Nat} (h : j ≠ i.toNat) : (outAt N i)[j]? = N[j]? := by unfold outAt; rw [List.getElem?_set_ne (by omega)]
theorem putAt_get (N : NL) {i : Int} {n : DNode} {j : Nat} (h : j ≠ i.toNat) : (putAt N i n)[j]? = N[j]? := by unfold putAt; rw [List.getElem?_set_ne (by omega)]
theorem putAt_self (N : NL) {i : Int} {n : DNode} (h : i.toNat < N.length) : (putAt N i n)[i.toNat]? = some (.inr n) := by unfold putAt; rw [List.getElem?_set_self h]
theorem outAt_length (N : NL) (i : Int) : (outAt N i).length = N.length := by unfold outAt; rw [List.length_set]
theorem putAt_length (N : NL) (i : Int) (n : DNode) : (putAt N i n).length = N.length := by unfold putAt; rw [List.length_set]
def kd (N : NL) (j : Nat) : Option Int := (N[j]?).map kindN
theorem outAt_kd (N : NL) (i : Int) (j : Nat) : kd (outAt N i) j = kd N j := by
 unfold kd outAt
 rw [List.getElem?_set]
 split
 · rename_i e; subst e
   split
   · rename_i h; rw [List.getElem?_eq_getElem h]; rfl
   · rename_i h; rw [List.getElem?_eq_none (by omega)]
 · rfl
def ChkL (N : NL) : Prop := ∀ n ∈ fN N, chkN n = 0
theorem ChkL.out {N : NL} (h : ChkL N) (i : Int) : ChkL (outAt N i) := fun n hn => by
 obtain ⟨x, hx, rfl⟩ := List.mem_map.1 hn
 rcases List.mem_or_eq_of_mem_set hx with hx | rfl
 · exact h _ (List.mem_map.2 ⟨x, hx, rfl⟩)
 · show chkN zN = 0; decide
theorem ChkL.put {N : NL} (h : ChkL N) {i : Int} {n : DNode} (hn : chkN n = 0) : ChkL (putAt N i n) := fun m hm => by
 obtain ⟨x, hx, rfl⟩ := List.mem_map.1 hm
 rcases List.mem_or_eq_of_mem_set hx with hx | rfl
 · exact h _ (List.mem_map.2 ⟨x, hx, rfl⟩)
 · exact hn
theorem ChkL.push {N : NL} (h : ChkL N) {n : DNode} (hn : chkN n = 0) : ChkL (N ++ [.inr n]) := fun m hm => by
 obtain ⟨x, hx, rfl⟩ := List.mem_map.1 hm
 rcases List.mem_append.1 hx with hx | hx
 · exact h _ (List.mem_map.2 ⟨x, hx, rfl⟩)
 · rw [List.mem_singleton.1 hx]; exact hn
theorem node_at {N : NL} {i : Int} (h : 0 ≤ i ∧ i < ((fN N).length : Int)) (hk : (nd (fN N) i).kind ≠ 0) : nodeAt N i = some (nd (fN N) i) ∧ N[i.toNat]? = some (.inr (nd (fN N) i)) := by
 rw [fN_length] at h
 have hg : N[i.toNat]? = some N[i.toNat] := List.getElem?_eq_getElem (by omega)
 have hn : nd (fN N) i = fN1 N[i.toNat] := by
  unfold nd; rw [fN_get, hg]; rfl
 cases hx : N[i.toNat] with
 | inl k =>
  rw [hn, hx] at hk
  exact absurd rfl hk
 | inr n =>
  rw [hn, hx]
  unfold nodeAt
  rw [if_neg (by omega), hg, hx]
  exact ⟨rfl, rfl⟩
theorem SubT.kind {ns : List DNode} {h : Nat} {i : Int} {m : Nat} {s : Span} (c : SubT ns h i m s) : (nd ns i).kind ≠ 0 := by
 cases h with
 | zero => rw [c.2.1]; decide
 | succ h => rw [c.2.1]; decide
theorem SubT.node {N : NL} {h : Nat} {i : Int} {m : Nat} {s : Span} (c : SubT (fN N) h i m s) : nodeAt N i = some (nd (fN N) i) ∧ N[i.toNat]? = some (.inr (nd (fN N) i)) := node_at c.range c.kind
theorem has_at {N : NL} {i : Int} (h : 0 ≤ i ∧ i < (N.length : Int)) : hasAt N i = some () := by unfold hasAt; rw [if_pos h]
theorem nd_put {N : NL} {i : Int} {n : DNode} (h : 0 ≤ i ∧ i < (N.length : Int)) : nd (fN (putAt N i n)) i = n := by
 unfold nd
 rw [fN_get, putAt_self N (by omega)]; rfl
theorem SubT.agree {N N' : NL} (hl : N.length ≤ N'.length) {h : Nat} {i : Int} {m : Nat} {s : Span} (c : SubT (fN N) h i m s) (hj : ∀ j ∈ ids (fN N) h i, N'[j]? = N[j]?) :
 SubT (fN N') h i m s ∧ ids (fN N') h i = ids (fN N) h i ∧ elemsAt (fN N') h i = elemsAt (fN N) h i ∧ nd (fN N') i = nd (fN N) i :=
 SubT.same (by rw [fN_length, fN_length]; exact hl) c fun j hjm => fN_agree (hj j hjm)
theorem SubT.head {ns : List DNode} (h : Nat) (i : Int) : i.toNat ∈ ids ns h i := by cases h <;> simp [ids]
theorem Ch.before {P : Int → Int → Span → Prop} : ∀ {XA X : List DSpot} {s : Span} {A K TA T : List Int}, XA.length = A.length → TA.length = A.length → Ch P (XA ++ X) s (A ++ K) (TA ++ T) → ∀ k ∈ A, ∃ t s', P k t s' ∧ ∀ y, inS s' y = true → ∃ x ∈ XA, cmpS y x < 0
 | [], X, s, A, K, TA, T, h1, _, _, k, hk => by
  obtain rfl := List.eq_nil_of_length_eq_zero h1.symm
  cases hk
 | x :: XA, X, s, A, K, TA, T, h1, h2, ⟨a, ks, t, ts, e1, e2, c1, c2, c⟩, k, hk => by
  cases A with
  | nil => simp at h1
  | cons b A =>
  cases TA with
  | nil => simp at h2
  | cons u TA =>
  obtain ⟨rfl, rfl⟩ : b = a ∧ A ++ K = ks := by simpa using e1
  obtain ⟨rfl, rfl⟩ : u = t ∧ TA ++ T = ts := by simpa using e2
  rcases List.mem_cons.1 hk with rfl | hk
  · exact ⟨u, _, c2, fun y hy => ⟨x, List.mem_cons_self, (inS_hiS.1 hy).2⟩⟩
  · obtain ⟨t', s', i1, i2⟩ := Ch.before (by simpa using h1) (by simpa using h2) c k hk
    exact ⟨t', s', i1, fun y hy => by obtain ⟨z, hz, hzy⟩ := i2 y hy; exact ⟨z, List.mem_cons_of_mem _ hz, hzy⟩⟩
theorem Ch.behind {P : Int → Int → Span → Prop} : ∀ {XA XB : List DSpot} {x : DSpot} {s : Span} {A B TA TB : List Int}, XA.length + 1 = A.length → TA.length = A.length → Ch P (XA ++ x :: XB) s (A ++ B) (TA ++ TB) → ∀ k ∈ B, ∃ t s', P k t s' ∧ ∀ y, inS s' y = true → cmpS x y ≤ 0
 | [], XB, x, s, A, B, TA, TB, h1, h2, ⟨a, ks, t, ts, e1, e2, c1, c2, c⟩, k, hk => by
  obtain ⟨b, rfl⟩ := List.length_eq_one_iff.1 h1.symm
  obtain ⟨u, rfl⟩ := List.length_eq_one_iff.1 h2
  obtain ⟨rfl, rfl⟩ : b = a ∧ B = ks := by simpa using e1
  obtain ⟨rfl, rfl⟩ : u = t ∧ TB = ts := by simpa using e2
  obtain ⟨t', s', i1, i2⟩ := c.mem k hk
  exact ⟨t', s', i1, fun y hy => (inS_loS.1 (i2 y hy)).1⟩
 | z :: XA, XB, x, s, A, B, TA, TB, h1, h2, ⟨a, ks, t, ts, e1, e2, c1, c2, c⟩, k, hk => by
  cases A with
  | nil => simp at h1
  | cons b A =>
  cases TA with
  | nil => simp at h2
  | cons u TA =>
  obtain ⟨rfl, rfl⟩ : b = a ∧ A ++ B = ks := by simpa using e1
  obtain ⟨rfl, rfl⟩ : u = t ∧ TA ++ TB = ts := by simpa using e2
  exact Ch.behind (by simpa using h1) (by simpa using h2) c k hk
theorem list_at {α : Type} (l : List α) {w : Nat} (h : w < l.length) : l = l.take w ++ l[w] :: l.drop (w + 1) := by
 rw [← List.drop_eq_getElem_cons h, List.take_append_drop]
structure Foc (P : Int → Int → Span → Prop) (n : DNode) (s : Span) (sp : DSpot) (A : List Int) (k : Int) (B : List Int) (XA XB : List DSpot) (TA : List Int) (t : Int) (TB : List Int) (s' : Span) : Prop where
 kids : n.kids = A ++ k :: B
 seps : n.seps = XA ++ XB
 tids : n.tids = TA ++ t :: TB
 xa : XA.length = A.length
 ta : TA.length = A.length
 xb : XB.length = B.length
 tb : TB.length = B.length
 way : wayR n.seps sp = A.length
 here : P k t s'
 in_ : inS s' sp = true
 sub : ∀ y, inS s' y = true → inS s y = true
 lo : ∀ k' ∈ A, ∃ t' s'', P k' t' s'' ∧ ∀ y, inS s'' y = true → cmpS y sp < 0
 hi : ∀ k' ∈ B, ∃ t' s'', P k' t' s'' ∧ ∀ y, inS s'' y = true → cmpS sp y < 0
 loX : ∀ x ∈ XA, ∀ y, inS s' y = true → cmpS x y ≤ 0
 hiX : ∀ x ∈ XB, ∀ y, inS s' y = true → cmpS y x < 0
 turn : ∀ Q : Int → Int → Span → Prop, (∀ k t s', k ∈ A ∨ k ∈ B → P k t s' → Q k t s') → ∀ M' XM' TM', Ch Q XM' s' M' TM' → Ch Q (XA ++ (XM' ++ XB)) s (A ++ (M' ++ B)) (TA ++ (TM' ++ TB))
theorem focus1 {P : Int → Int → Span → Prop} {n : DNode} {s : Span} {sp : DSpot} (h1 : n.seps.length + 1 = n.kids.length) (h2 : n.tids.length = n.kids.length) (ho : n.seps.Pairwise SpotO) (c : Ch P n.seps s n.kids n.tids) (hs : inS s sp = true) :
 ∃ A k B XA XB TA t TB s', Foc P n s sp A k B XA XB TA t TB s' := by
 have hw := wayR_le n.seps sp
 obtain ⟨w1, w2⟩ := wayR_at n.seps sp
 generalize hwe : wayR n.seps sp = w at *
 have e1 := list_at n.kids (w := w) (by omega)
 have e2 := list_at n.tids (w := w) (by omega)
 have e3 : n.seps = n.seps.take w ++ n.seps.drop w := (List.take_append_drop _ _).symm
 have l1 : (n.kids.take w).length = w := by rw [List.length_take]; omega
 have l2 : (n.tids.take w).length = w := by rw [List.length_take]; omega
 have l3 : (n.seps.take w).length = w := by rw [List.length_take]; omega
 have l4 : (n.kids.drop (w + 1)).length = n.kids.length - (w + 1) := List.length_drop
 have l5 : (n.tids.drop (w + 1)).length = n.tids.length - (w + 1) := List.length_drop
 have l6 : (n.seps.drop w).length = n.seps.length - w := List.length_drop
 have xa : ∀ x ∈ n.seps.take w, cmpS x sp ≤ 0 := fun x hx => by
  obtain ⟨q, hq⟩ := List.mem_iff_getElem?.1 hx
  have hql := (List.getElem?_eq_some_iff.1 hq).1
  rw [List.getElem?_take_of_lt (by omega)] at hq
  exact w1 q x (by omega) hq
 have xb : ∀ x ∈ n.seps.drop w, cmpS sp x < 0 := fun x hx => by
  have hlt : w < n.seps.length := by
   obtain ⟨q, hq⟩ := List.mem_iff_getElem?.1 hx
   have := (List.getElem?_eq_some_iff.1 hq).1; omega
  have h0 : n.seps[w]? = some n.seps[w] := List.getElem?_eq_getElem hlt
  have h3 := w2 _ h0
  have h4 : cmpS sp n.seps[w] < 0 := by
   have := cmp_cmpS.neg n.seps[w] sp
   omega
  rw [List.drop_eq_getElem_cons hlt] at hx
  rcases List.mem_cons.1 hx with rfl | hx
  · exact h4
  · obtain ⟨q, hq⟩ := List.mem_iff_getElem?.1 hx
    rw [List.getElem?_drop] at hq
    exact cmp_cmpS.lt_trans h4 (pairwise_at ho (by omega) h0 hq)
 have c' := c
 rw [e1, e2, e3] at c'
 have ho' := ho
 rw [e3] at ho'
 obtain ⟨s', i1, i2, i3, i4, i5, i6⟩ := Ch.focus (XM := []) (M := [n.kids[w]]) (TM := [n.tids[w]]) (by omega) (by omega) rfl rfl (by omega) (by omega) ho' c'
 obtain ⟨k, t, hk, ht, hP⟩ := i1
 obtain rfl : n.kids[w] = k := by simpa using hk
 obtain rfl : n.tids[w] = t := by simpa using ht
 refine ⟨_, _, _, n.seps.take w, n.seps.drop w, _, _, _, s', e1, e3, e2, by omega, by omega, by omega, by omega, by rw [hwe, l1], hP, ?_, i2, fun k' hk' => ?_, fun k' hk' => ?_, i3, i4, i6⟩
 · exact i5 sp hs (fun x hx => xa x hx) (fun x hx => xb x hx)
 · obtain ⟨t', s'', j1, j2⟩ := Ch.before (by omega) (by omega) c' k' hk'
   exact ⟨t', s'', j1, fun y hy => by obtain ⟨x, hx, hxy⟩ := j2 y hy; exact cmpS_lt_le hxy (xa x hx)⟩
 · have hne : n.seps.drop w ≠ [] := fun e => by
    have : (n.kids.drop (w + 1)).length = 0 := by rw [e] at l6; simp at l6; omega
    rw [List.eq_nil_of_length_eq_zero this] at hk'; cases hk'
   obtain ⟨x, XB, hX⟩ := List.exists_cons_of_ne_nil hne
   have c2 := c'
   rw [hX, show n.kids.take w ++ n.kids[w] :: n.kids.drop (w + 1) = (n.kids.take w ++ [n.kids[w]]) ++ n.kids.drop (w + 1) by simp, show n.tids.take w ++ n.tids[w] :: n.tids.drop (w + 1) = (n.tids.take w ++ [n.tids[w]]) ++ n.tids.drop (w + 1) by simp] at c2
   obtain ⟨t', s'', j1, j2⟩ := Ch.behind (by simp; omega) (by simp; omega) c2 k' hk'
   exact ⟨t', s'', j1, fun y hy => cmpS_lt_le (xb x (by rw [hX]; exact List.mem_cons_self)) (j2 y hy)⟩
theorem SubT.weak {ns : List DNode} {h : Nat} {i : Int} {m m' : Nat} {s : Span} (hm : m' ≤ m) (c : SubT ns h i m s) : SubT ns h i m' s := by
 cases h with
 | zero => exact ⟨c.1, c.2.1, Nat.le_trans hm c.2.2.1, c.2.2.2⟩
 | succ h => exact ⟨c.1, c.2.1, Nat.le_trans hm c.2.2.1, c.2.2.2⟩
theorem SubT.leaf {ns : List DNode} (hns : ∀ n ∈ ns, chkN n = 0) {i : Int} {m : Nat} {s : Span} (c : SubT ns 0 i m s) : Leaf (nd ns i) := leaf_of hns c.1 c.2.1
theorem SubT.inner {ns : List DNode} (hns : ∀ n ∈ ns, chkN n = 0) {h : Nat} {i : Int} {m : Nat} {s : Span} (c : SubT ns (h + 1) i m s) : Inner (nd ns i) := (inner_of hns c.1 ⟨by rw [c.2.1]; decide, by rw [c.2.1]; decide⟩).2
theorem SubT.elems {ns : List DNode} (hns : ∀ n ∈ ns, chkN n = 0) {h : Nat} {i : Int} {m : Nat} {s : Span} (c : SubT ns h i m s) : (elemsAt ns h i).Pairwise SpO ∧ ∀ e ∈ elemsAt ns h i, inS s (spotE e) = true ∧ chkE e = 0 := by
 have h0 : SubT ns h i (mOf 0 h) s := by
  cases h with
  | zero => exact c.weak (Nat.zero_le _)
  | succ h => exact ⟨c.1, c.2.1, (c.inner hns).two, c.2.2.2⟩
 exact elems_sorted hns h i 0 s ((okN_sub hns h i 0 s (Int.le_refl _)).2 h0)
theorem nodup_parts {f : Int → List Nat} {i : Nat} {A B : List Int} {k : Int} (h : (i :: (A ++ k :: B).flatMap f).Nodup) :
 i ∉ f k ∧ (f k).Nodup ∧ (∀ a, a ∈ A ∨ a ∈ B → i ∉ f a ∧ ∀ j ∈ f a, j ∉ f k) := by
 rw [List.flatMap_append, List.flatMap_cons, List.nodup_cons] at h
 obtain ⟨h1, h2⟩ := h
 rw [List.nodup_append] at h2
 obtain ⟨h3, h4, h5⟩ := h2
 rw [List.nodup_append] at h4
 obtain ⟨h6, h7, h8⟩ := h4
 simp only [List.mem_append, not_or] at h1
 refine ⟨h1.2.1, h6, fun a ha => ⟨fun hi => ?_, fun j hj hk => ?_⟩⟩
 · rcases ha with ha | ha
   · exact h1.1 (List.mem_flatMap.2 ⟨a, ha, hi⟩)
   · exact h1.2.2 (List.mem_flatMap.2 ⟨a, ha, hi⟩)
 · rcases ha with ha | ha
   · exact h5 j (List.mem_flatMap.2 ⟨a, ha, hj⟩) j (List.mem_append_left _ hk) rfl
   · exact h8 j hk j (List.mem_flatMap.2 ⟨a, ha, hj⟩) rfl
theorem idx_mid {α : Type} (A : List α) (x : α) (B : List α) : idx (A ++ x :: B) (A.length : Int) = some x := by
 rw [idx_nat', List.getElem?_append_right (Nat.le_refl _)]; simp
theorem set_len {α : Type} (A : List α) (x y : α) (B : List α) : (A ++ x :: B).set A.length y = A ++ y :: B := by
 rw [List.set_append_right _ _ (Nat.le_refl _)]; simp
end Go.Proofs.Ytcmkdoahkncakaa
