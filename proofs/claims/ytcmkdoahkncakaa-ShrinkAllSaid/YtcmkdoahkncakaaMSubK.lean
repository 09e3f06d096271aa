/- Plain Lean: parts of trees, as chains of spans; what stays of them when other nodes are written. Its conditions: none. -/
import Derived.Test.YtcmkdoahkncakaaMBuildK
namespace Go.Proofs.Ytcmkdoahkncakaa
set_option linter.unusedVariables false
set_option linter.unusedSimpArgs false
def hiS (s : Span) (x : DSpot) : Span := { s with hi := x, hasHi := true }
def loS (s : Span) (x : DSpot) : Span := { s with lo := x, hasLo := true }
theorem inS_hiS {s : Span} {x y : DSpot} : inS (hiS s x) y = true ↔ (s.hasLo = true → cmpS s.lo y ≤ 0) ∧ cmpS y x < 0 := by
 rw [inS_iff]; unfold hiS; simp
theorem inS_loS {s : Span} {x y : DSpot} : inS (loS s x) y = true ↔ cmpS x y ≤ 0 ∧ (s.hasHi = true → cmpS y s.hi < 0) := by
 rw [inS_iff]; unfold loS; simp
theorem inS_hi_sub {s : Span} {x y : DSpot} (hx : inS s x = true) (h : inS (hiS s x) y = true) : inS s y = true := by
 rw [inS_hiS] at h
 rw [inS_iff] at hx ⊢
 exact ⟨h.1, fun hh => cmp_cmpS.lt_trans h.2 (hx.2 hh)⟩
theorem inS_lo_sub {s : Span} {x y : DSpot} (hx : inS s x = true) (h : inS (loS s x) y = true) : inS s y = true := by
 rw [inS_loS] at h
 rw [inS_iff] at hx ⊢
 exact ⟨fun hh => cmpS_le_le_ (hx.1 hh) h.1, h.2⟩
def Ch (P : Int → Int → Span → Prop) : List DSpot → Span → List Int → List Int → Prop
 | [], s, ks, ts => ∃ k t, ks = [k] ∧ ts = [t] ∧ P k t s
 | x :: xs, s, ks, ts => ∃ k ks' t ts', ks = k :: ks' ∧ ts = t :: ts' ∧ inS s x = true ∧ P k t (hiS s x) ∧ Ch P xs (loS s x) ks' ts'
section
variable {P Q : Int → Int → Span → Prop}
theorem Ch.lens : ∀ {xs : List DSpot} {s : Span} {ks ts : List Int}, Ch P xs s ks ts → xs.length + 1 = ks.length ∧ ts.length = ks.length
 | [], s, ks, ts, ⟨k, t, h1, h2, _⟩ => by subst h1 h2; exact ⟨rfl, rfl⟩
 | x :: xs, s, ks, ts, ⟨k, ks', t, ts', h1, h2, _, _, c⟩ => by
  subst h1 h2
  have := c.lens
  simp only [List.length_cons]; omega
theorem Ch.mono : ∀ {xs : List DSpot} {s : Span} {ks ts : List Int}, (∀ k t s', k ∈ ks → P k t s' → Q k t s') → Ch P xs s ks ts → Ch Q xs s ks ts
 | [], s, ks, ts, h, ⟨k, t, h1, h2, c⟩ => ⟨k, t, h1, h2, h _ _ _ (by rw [h1]; exact List.mem_cons_self) c⟩
 | x :: xs, s, ks, ts, h, ⟨k, ks', t, ts', h1, h2, h3, h4, c⟩ => ⟨k, ks', t, ts', h1, h2, h3, h _ _ _ (by rw [h1]; exact List.mem_cons_self) h4, c.mono fun k t s' hk => h k t s' (by rw [h1]; exact List.mem_cons_of_mem _ hk)⟩
theorem Ch.mem : ∀ {xs : List DSpot} {s : Span} {ks ts : List Int}, Ch P xs s ks ts → ∀ k ∈ ks, ∃ t s', P k t s' ∧ ∀ y, inS s' y = true → inS s y = true
 | [], s, ks, ts, ⟨k, t, h1, h2, c⟩, q, hq => by
  subst h1
  rw [List.mem_singleton.1 hq]; exact ⟨t, s, c, fun _ h => h⟩
 | x :: xs, s, ks, ts, ⟨k, ks', t, ts', h1, h2, h3, h4, c⟩, q, hq => by
  subst h1
  rcases List.mem_cons.1 hq with rfl | hq
  · exact ⟨t, _, h4, fun y h => inS_hi_sub h3 h⟩
  · obtain ⟨t', s', i1, i2⟩ := c.mem q hq
    exact ⟨t', s', i1, fun y h => inS_lo_sub h3 (i2 y h)⟩
theorem Ch.seps : ∀ {xs : List DSpot} {s : Span} {ks ts : List Int}, Ch P xs s ks ts → ∀ x ∈ xs, inS s x = true
 | [], s, ks, ts, c, y, hy => by cases hy
 | x :: xs, s, ks, ts, ⟨k, ks', t, ts', h1, h2, h3, h4, c⟩, y, hy => by
  rcases List.mem_cons.1 hy with rfl | hy
  · exact h3
  · exact inS_lo_sub h3 (c.seps y hy)
theorem Ch.at_ : ∀ {xs : List DSpot} {s : Span} {ks ts : List Int}, Ch P xs s ks ts → ∀ (q : Nat) (k : Int), ks[q]? = some k → ∃ t s', ts[q]? = some t ∧ P k t s' ∧ ∀ y, inS s' y = true → inS s y = true
 | [], s, ks, ts, ⟨k, t, h1, h2, c⟩, q, k', hq => by
  subst h1 h2
  cases q with
  | zero => obtain rfl : k = k' := by simpa using hq
            exact ⟨t, s, rfl, c, fun _ h => h⟩
  | succ q => simp at hq
 | x :: xs, s, ks, ts, ⟨k, ks', t, ts', h1, h2, h3, h4, c⟩, q, k', hq => by
  subst h1 h2
  cases q with
  | zero => obtain rfl : k = k' := by simpa using hq
            exact ⟨t, _, rfl, h4, fun y h => inS_hi_sub h3 h⟩
  | succ q =>
   obtain ⟨t', s', i1, i2, i3⟩ := c.at_ q k' (by simpa using hq)
   exact ⟨t', s', by simpa using i1, i2, fun y h => inS_lo_sub h3 (i3 y h)⟩
theorem Ch.join : ∀ {xs : List DSpot} {s : Span} {ks ts ks' ts' : List Int} {xs' : List DSpot} {x : DSpot}, inS s x = true → Ch P xs (hiS s x) ks ts → Ch P xs' (loS s x) ks' ts' → Ch P (xs ++ x :: xs') s (ks ++ ks') (ts ++ ts')
 | [], s, ks, ts, ks', ts', xs', x, hx, ⟨k, t, h1, h2, c⟩, c' => ⟨k, ks', t, ts', by rw [h1]; rfl, by rw [h2]; rfl, hx, c, c'⟩
 | y :: xs, s, ks, ts, ks', ts', xs', x, hx, ⟨k, ks1, t, ts1, h1, h2, h3, h4, c⟩, c' => by
  subst h1 h2
  have hy := inS_hiS.1 h3
  have e1 : loS (hiS s x) y = hiS (loS s y) x := rfl
  have e2 : loS s x = loS (loS s y) x := rfl
  exact ⟨k, ks1 ++ ks', t, ts1 ++ ts', rfl, rfl, inS_hi_sub hx h3, h4, Ch.join (s := loS s y) (inS_loS.2 ⟨by omega, fun hh => (inS_iff.1 hx).2 hh⟩) (e1 ▸ c) (e2 ▸ c')⟩
theorem Ch.split : ∀ {xs : List DSpot} {s : Span} {ks ts ks' ts' : List Int} {xs' : List DSpot} {x : DSpot}, xs.length + 1 = ks.length → ts.length = ks.length → (xs ++ x :: xs').Pairwise SpotO → Ch P (xs ++ x :: xs') s (ks ++ ks') (ts ++ ts') →
 inS s x = true ∧ Ch P xs (hiS s x) ks ts ∧ Ch P xs' (loS s x) ks' ts'
 | [], s, ks, ts, ks', ts', xs', x, h1, h2, ho, ⟨k, ks1, t, ts1, e1, e2, i1, i2, c⟩ => by
  obtain ⟨a, rfl⟩ := List.length_eq_one_iff.1 h1.symm
  obtain ⟨b, rfl⟩ := List.length_eq_one_iff.1 h2
  obtain ⟨rfl, rfl⟩ : a = k ∧ ks' = ks1 := by simpa using e1
  obtain ⟨rfl, rfl⟩ : b = t ∧ ts' = ts1 := by simpa using e2
  exact ⟨i1, ⟨a, b, rfl, rfl, i2⟩, c⟩
 | y :: xs, s, ks, ts, ks', ts', xs', x, h1, h2, ho, ⟨k, ks1, t, ts1, e1, e2, i1, i2, c⟩ => by
  rw [List.cons_append, List.pairwise_cons] at ho
  have hyx : cmpS y x < 0 := ho.1 x (by simp)
  cases ks with
  | nil => simp at h1
  | cons a ks =>
  cases ts with
  | nil => simp at h2
  | cons b ts =>
  obtain ⟨rfl, rfl⟩ : a = k ∧ ks ++ ks' = ks1 := by simpa using e1
  obtain ⟨rfl, rfl⟩ : b = t ∧ ts ++ ts' = ts1 := by simpa using e2
  obtain ⟨j1, j2, j3⟩ := Ch.split (s := loS s y) (by simpa using h1) (by simpa using h2) ho.2 c
  exact ⟨inS_lo_sub i1 j1, ⟨a, ks, b, ts, rfl, rfl, inS_hiS.2 ⟨(inS_iff.1 i1).1, hyx⟩, i2, j2⟩, j3⟩
theorem Ch.focus : ∀ {XA XM XB : List DSpot} {A M B TA TM TB : List Int} {s : Span}, XA.length = A.length → TA.length = A.length → XM.length + 1 = M.length → TM.length = M.length → XB.length = B.length → TB.length = B.length →
 (XA ++ (XM ++ XB)).Pairwise SpotO → Ch P (XA ++ (XM ++ XB)) s (A ++ (M ++ B)) (TA ++ (TM ++ TB)) →
 ∃ s', Ch P XM s' M TM ∧ (∀ y, inS s' y = true → inS s y = true) ∧ (∀ x ∈ XA, ∀ y, inS s' y = true → cmpS x y ≤ 0) ∧ (∀ x ∈ XB, ∀ y, inS s' y = true → cmpS y x < 0) ∧
  (∀ y, inS s y = true → (∀ x ∈ XA, cmpS x y ≤ 0) → (∀ x ∈ XB, cmpS y x < 0) → inS s' y = true) ∧
  ∀ Q : Int → Int → Span → Prop, (∀ k t s', k ∈ A ∨ k ∈ B → P k t s' → Q k t s') → ∀ M' XM' TM', Ch Q XM' s' M' TM' → Ch Q (XA ++ (XM' ++ XB)) s (A ++ (M' ++ B)) (TA ++ (TM' ++ TB))
 | [], XM, [], A, M, B, TA, TM, TB, s, h1, h2, _, _, h5, h6, _, c => by
  obtain rfl := List.eq_nil_of_length_eq_zero h1.symm
  obtain rfl := List.eq_nil_of_length_eq_zero h2
  obtain rfl := List.eq_nil_of_length_eq_zero h5.symm
  obtain rfl := List.eq_nil_of_length_eq_zero h6
  exact ⟨s, by simpa using c, fun _ h => h, by simp, by simp, fun _ h _ _ => h, fun Q _ M' XM' TM' c' => by simpa using c'⟩
 | [], XM, x :: XB, A, M, B, TA, TM, TB, s, h1, h2, h3, h4, h5, h6, ho, c => by
  obtain rfl := List.eq_nil_of_length_eq_zero h1.symm
  obtain rfl := List.eq_nil_of_length_eq_zero h2
  obtain ⟨i1, i2, i3⟩ := Ch.split (s := s) h3 h4 ho c
  refine ⟨hiS s x, i2, fun y h => inS_hi_sub i1 h, by simp, fun z hz y hy => ?_, fun y hy _ hb => ?_, fun Q hPQ M' XM' TM' c' => ?_⟩
  · have hyx := (inS_hiS.1 hy).2
    rcases List.mem_cons.1 hz with rfl | hz
    · exact hyx
    · have : cmpS x z < 0 := (List.pairwise_cons.1 (List.pairwise_append.1 (show (XM ++ x :: XB).Pairwise SpotO from ho)).2.1).1 z hz
      exact cmp_cmpS.lt_trans hyx this
  · exact inS_hiS.2 ⟨(inS_iff.1 hy).1, hb x List.mem_cons_self⟩
  · show Ch Q (XM' ++ x :: XB) s (M' ++ B) (TM' ++ TB)
    exact Ch.join i1 c' (i3.mono fun k t s' hk => hPQ k t s' (.inr hk))
 | x :: XA, XM, XB, A, M, B, TA, TM, TB, s, h1, h2, h3, h4, h5, h6, ho, ⟨k, ks1, t, ts1, e1, e2, c1, c2, c⟩ => by
  rw [List.cons_append, List.pairwise_cons] at ho
  cases A with
  | nil => simp at h1
  | cons a A =>
  cases TA with
  | nil => simp at h2
  | cons b TA =>
  obtain ⟨rfl, rfl⟩ : a = k ∧ A ++ (M ++ B) = ks1 := by simpa using e1
  obtain ⟨rfl, rfl⟩ : b = t ∧ TA ++ (TM ++ TB) = ts1 := by simpa using e2
  obtain ⟨s', i1, i2, i3, i4, i5, i6⟩ := Ch.focus (s := loS s x) (by simpa using h1) (by simpa using h2) h3 h4 h5 h6 ho.2 c
  refine ⟨s', i1, fun y h => inS_lo_sub c1 (i2 y h), fun z hz y hy => ?_, i4, fun y hy ha hb => ?_, fun Q hPQ M' XM' TM' c' => ⟨a, A ++ (M' ++ B), b, TA ++ (TM' ++ TB), rfl, rfl, c1, hPQ a b _ (.inl List.mem_cons_self) c2, i6 Q (fun k t s' hk => hPQ k t s' (hk.elim (fun h => .inl (List.mem_cons_of_mem _ h)) .inr)) M' XM' TM' c'⟩⟩
  · rcases List.mem_cons.1 hz with rfl | hz
    · exact (inS_loS.1 (i2 y hy)).1
    · exact i3 z hz y hy
  · exact i5 y (inS_loS.2 ⟨ha x List.mem_cons_self, (inS_iff.1 hy).2⟩) (fun z hz => ha z (List.mem_cons_of_mem _ hz)) hb
end
def SubT (ns : List DNode) : Nat → Int → Nat → Span → Prop
 | 0, i, m, s => (0 ≤ i ∧ i < (ns.length : Int)) ∧ (nd ns i).kind = 1 ∧ m ≤ (nd ns i).elems.length ∧ ∀ x ∈ (nd ns i).elems, inS s (spotE x) = true
 | h + 1, i, m, s => (0 ≤ i ∧ i < (ns.length : Int)) ∧ (nd ns i).kind = 2 ∧ m ≤ (nd ns i).kids.length ∧ Ch (fun k t s' => SubT ns h k 4 s' ∧ greatR (nd ns k) = t) (nd ns i).seps s (nd ns i).kids (nd ns i).tids
abbrev KidP (ns : List DNode) (h : Nat) : Int → Int → Span → Prop := fun k t s' => SubT ns h k 4 s' ∧ greatR (nd ns k) = t
theorem SubT.range {ns : List DNode} {h : Nat} {i : Int} {m : Nat} {s : Span} (c : SubT ns h i m s) : 0 ≤ i ∧ i < (ns.length : Int) := by cases h <;> exact c.1
def kS (xs : List DSpot) (s : Span) (q : Nat) : Span := kidSp ⟨2, [], [], xs, []⟩ s q
theorem kS_zero (x : DSpot) (xs : List DSpot) (s : Span) : kS (x :: xs) s 0 = hiS s x := rfl
theorem kS_succ (x : DSpot) (xs : List DSpot) (s : Span) {q : Nat} (hq : q ≤ xs.length) : kS (x :: xs) s (q + 1) = kS xs (loS s x) q := by
 have key : loSp ⟨2, [], [], x :: xs, []⟩ s (q + 1) = loSp ⟨2, [], [], xs, []⟩ (loS s x) q := by
  cases q with
  | zero => rfl
  | succ r =>
   have hr : xs[r]? = some xs[r] := List.getElem?_eq_getElem (by omega)
   show (match (x :: xs)[r + 1]? with | some y => ({ s with lo := y, hasLo := true } : Span) | none => s) = (match xs[r]? with | some y => ({ loS s x with lo := y, hasLo := true } : Span) | none => loS s x)
   rw [List.getElem?_cons_succ, hr]; rfl
 unfold kS kidSp
 rw [key]
 show hiSp ⟨2, [], [], x :: xs, []⟩ (loSp ⟨2, [], [], xs, []⟩ (loS s x) q) (q + 1) = hiSp ⟨2, [], [], xs, []⟩ (loSp ⟨2, [], [], xs, []⟩ (loS s x) q) q
 unfold hiSp
 show (match (x :: xs)[q + 1]? with | some y => _ | none => _) = _
 rw [List.getElem?_cons_succ]
 rfl
theorem ch_iff {P : Int → Int → Span → Prop} : ∀ {xs : List DSpot} {s : Span} {ks ts : List Int}, xs.length + 1 = ks.length → ts.length = ks.length → xs.Pairwise SpotO → (∀ x ∈ xs, inS s x = true) →
 (Ch P xs s ks ts ↔ ∀ (q : Nat) (k t : Int), ks[q]? = some k → ts[q]? = some t → P k t (kS xs s q))
 | [], s, ks, ts, h1, h2, _, _ => by
  obtain ⟨a, rfl⟩ := List.length_eq_one_iff.1 h1.symm
  obtain ⟨b, rfl⟩ := List.length_eq_one_iff.1 h2
  constructor
  · rintro ⟨k, t, e1, e2, c⟩ q k' t' hk ht
    obtain rfl : a = k := by simpa using e1
    obtain rfl : b = t := by simpa using e2
    cases q with
    | zero =>
     obtain rfl : a = k' := by simpa using hk
     obtain rfl : b = t' := by simpa using ht
     exact c
    | succ q => simp at hk
  · intro h
    exact ⟨a, b, rfl, rfl, h 0 a b rfl rfl⟩
 | x :: xs, s, ks, ts, h1, h2, ho, hs => by
  cases ks with
  | nil => simp at h1
  | cons a ks =>
  cases ts with
  | nil => simp at h2
  | cons b ts =>
  rw [List.pairwise_cons] at ho
  have hx := inS_iff.1 (hs x List.mem_cons_self)
  have ih := ch_iff (P := P) (xs := xs) (s := loS s x) (ks := ks) (ts := ts) (by simpa using h1) (by simpa using h2) ho.2 (fun y hy => by
   have hxy : cmpS x y < 0 := ho.1 y hy
   have := inS_iff.1 (hs y (List.mem_cons_of_mem _ hy))
   exact inS_loS.2 ⟨by omega, this.2⟩)
  have hlen : xs.length + 1 = ks.length := by simpa using h1
  constructor
  · rintro ⟨k, ks1, t, ts1, e1, e2, c1, c2, c⟩ q k' t' hk ht
    obtain ⟨rfl, rfl⟩ : a = k ∧ ks = ks1 := by simpa using e1
    obtain ⟨rfl, rfl⟩ : b = t ∧ ts = ts1 := by simpa using e2
    cases q with
    | zero =>
     obtain rfl : a = k' := by simpa using hk
     obtain rfl : b = t' := by simpa using ht
     rw [kS_zero]; exact c2
    | succ q =>
     rw [List.getElem?_cons_succ] at hk ht
     rw [kS_succ x xs s (by have := (List.getElem?_eq_some_iff.1 hk).1; omega)]
     exact ih.1 c q k' t' hk ht
  · intro h
    refine ⟨a, ks, b, ts, rfl, rfl, hs x List.mem_cons_self, by have := h 0 a b rfl rfl; rwa [kS_zero] at this, ih.2 fun q k t hk ht => ?_⟩
    have := h (q + 1) k t (by simpa using hk) (by simpa using ht)
    rwa [kS_succ x xs s (by have := (List.getElem?_eq_some_iff.1 hk).1; omega)] at this
theorem kS_eq (n : DNode) (s : Span) (q : Nat) : kidSp n s q = kS n.seps s q := by
 unfold kS kidSp hiSp
 have : loSp n s q = loSp ⟨2, [], [], n.seps, []⟩ s q := by cases q <;> rfl
 rw [this]
theorem sepBad_all {n : DNode} {s : Span} : (∀ q, q ≤ n.seps.length → sepBad n s q = false) ↔ ∀ x ∈ n.seps, inS s x = true := by
 have key : ∀ q x, n.seps[q]? = some x → (sepBad n s (q + 1) = false ↔ inS s x = true) := fun q x hx => by
  have e : sepBad n s (q + 1) = !inS s x := by
   show (match n.seps[q]? with | some x => !inS s x | none => false) = _
   rw [hx]
  rw [e]; simp
 constructor
 · intro h x hx
   obtain ⟨q, hq⟩ := List.mem_iff_getElem?.1 hx
   have := (List.getElem?_eq_some_iff.1 hq).1
   exact (key q x hq).1 (h (q + 1) (by omega))
 · intro h q hq
   cases q with
   | zero => rfl
   | succ q =>
    have hx : n.seps[q]? = some n.seps[q] := List.getElem?_eq_getElem (by omega)
    exact (key q _ hx).2 (h _ (List.getElem_mem _))
def mOf (d : Int) (h : Nat) : Nat := if 0 < d then 4 else if h = 0 then 0 else 2
theorem okN_sub {ns : List DNode} (hns : ∀ n ∈ ns, chkN n = 0) : ∀ (h : Nat) (i d : Int) (s : Span), 0 ≤ d → (okN ns h i d s ↔ SubT ns h i (mOf d h) s) := by
 intro h
 induction h with
 | zero =>
  intro i d s hd
  have hm : ∀ L : Leaf (nd ns i), ((0 < d → 4 ≤ (nd ns i).elems.length + (nd ns i).kids.length) ↔ mOf d 0 ≤ (nd ns i).elems.length) := fun L => by
   rw [L.kids]; unfold mOf
   by_cases h : 0 < d
   · rw [if_pos h]; simp [h]
   · rw [if_neg h]; simp [h]
  constructor
  · rintro ⟨h1, h2, h3, h4⟩
    exact ⟨h1, h2, (hm (leaf_of hns h1 h2)).1 h3, h4⟩
  · rintro ⟨h1, h2, h3, h4⟩
    exact ⟨h1, h2, (hm (leaf_of hns h1 h2)).2 h3, h4⟩
 | succ h ih =>
  intro i d s hd
  have hm : ∀ L : Inner (nd ns i), ((0 < d → 4 ≤ (nd ns i).elems.length + (nd ns i).kids.length) ↔ mOf d (h + 1) ≤ (nd ns i).kids.length) := fun L => by
   rw [L.elems]; unfold mOf
   have := L.two
   by_cases h : 0 < d
   · rw [if_pos h]; simp [h]
   · rw [if_neg h]; simp [h]; omega
  have h4 : mOf (d + 1) h = 4 := by unfold mOf; rw [if_pos (by omega)]
  constructor
  · rintro ⟨h1, h2, h3, h5⟩
    obtain ⟨hk, L⟩ := inner_of hns h1 h2
    refine ⟨h1, hk, (hm L).1 h3, ?_⟩
    refine (ch_iff L.seps L.tids L.ord (sepBad_all.1 fun q hq => ?_)).2 fun q k t hk' ht => ?_
    · have hlen := L.seps
      have hkk : (nd ns i).kids[q]? = some (nd ns i).kids[q] := List.getElem?_eq_getElem (by omega)
      exact (h5 (_, q) (zip_mem hkk)).2.1
    · obtain ⟨c1, _, c3⟩ := h5 (k, q) (zip_mem hk')
      dsimp only at c1 c3
      rw [kS_eq] at c1
      have := (ih k (d + 1) _ (by omega)).1 c1
      rw [h4] at this
      exact ⟨this, by rw [c3, ht]; rfl⟩
  · rintro ⟨h1, h2, h3, h5⟩
    obtain ⟨hk, L⟩ := inner_of hns h1 ⟨by rw [h2]; decide, by rw [h2]; decide⟩
    have hseps := h5.seps
    refine ⟨h1, ⟨by rw [h2]; decide, by rw [h2]; decide⟩, (hm L).2 h3, fun p hp => ?_⟩
    rw [List.mem_zipIdx_iff_getElem?] at hp
    have hpl := (List.getElem?_eq_some_iff.1 hp).1
    have htl := L.tids
    have ht : (nd ns i).tids[p.2]? = some (nd ns i).tids[p.2] := List.getElem?_eq_getElem (by omega)
    obtain ⟨c1, c2⟩ := (ch_iff L.seps L.tids L.ord hseps).1 h5 p.2 p.1 _ hp ht
    refine ⟨?_, sepBad_all.2 hseps p.2 (by have := L.seps; omega), by rw [c2, ht]; rfl⟩
    rw [kS_eq]
    rw [← h4] at c1
    exact (ih p.1 (d + 1) _ (by omega)).2 c1
theorem flat_same {f g : Int → List Nat} : ∀ {l : List Int}, (∀ a ∈ l, f a = g a) → l.flatMap f = l.flatMap g
 | [], _ => rfl
 | a :: l, h => by rw [List.flatMap_cons, List.flatMap_cons, h a List.mem_cons_self, flat_same fun b hb => h b (List.mem_cons_of_mem _ hb)]
theorem SubT.same {ns ns' : List DNode} (hl : ns.length ≤ ns'.length) : ∀ {h : Nat} {i : Int} {m : Nat} {s : Span}, SubT ns h i m s → (∀ j ∈ ids ns h i, ns'[j]? = ns[j]?) →
 SubT ns' h i m s ∧ ids ns' h i = ids ns h i ∧ elemsAt ns' h i = elemsAt ns h i ∧ nd ns' i = nd ns i := by
 intro h
 induction h with
 | zero =>
  intro i m s c hj
  have e : nd ns' i = nd ns i := by unfold nd; rw [hj i.toNat (by simp [ids])]
  refine ⟨?_, rfl, by unfold elemsAt; rw [e], e⟩
  obtain ⟨h1, h2, h3, h4⟩ := c
  exact ⟨⟨h1.1, by omega⟩, by rw [e]; exact h2, by rw [e]; exact h3, by rw [e]; exact h4⟩
 | succ h ih =>
  intro i m s c hj
  have e : nd ns' i = nd ns i := by unfold nd; rw [hj i.toNat (by simp [ids])]
  obtain ⟨h1, h2, h3, h4⟩ := c
  have hkid : ∀ k ∈ (nd ns i).kids, ∀ {m : Nat} {s : Span}, SubT ns h k m s → SubT ns' h k m s ∧ ids ns' h k = ids ns h k ∧ elemsAt ns' h k = elemsAt ns h k ∧ nd ns' k = nd ns k := fun k hk {m s} c =>
   ih c fun j hjk => hj j (by rw [ids]; exact List.mem_cons_of_mem _ (List.mem_flatMap.2 ⟨k, hk, hjk⟩))
  refine ⟨⟨⟨h1.1, by omega⟩, by rw [e]; exact h2, by rw [e]; exact h3, ?_⟩, ?_, ?_, e⟩
  · rw [e]
    exact h4.mono fun k t s' hk c => ⟨(hkid k hk c.1).1, by rw [(hkid k hk c.1).2.2.2]; exact c.2⟩
  · rw [ids, ids, e]
    congr 1
    exact flat_same fun k hk => by obtain ⟨t, s', c, _⟩ := h4.mem k hk; exact (hkid k hk c.1).2.1
  · rw [elemsAt, elemsAt, e]
    exact flatMap_same fun k hk => by obtain ⟨t, s', c, _⟩ := h4.mem k hk; exact (hkid k hk c.1).2.2.1
end Go.Proofs.Ytcmkdoahkncakaa
