/- Plain Lean: parts of trees, as chains of spans; what stays of them when other nodes are written. Its conditions: none. -/
import Derived.Test.YtcmkdoahkncakaaMBuildJ
import Derived.Test.YtcmkdoahkncakaaTreeOJ
import Derived.Test.YtcmkdoahkncakaaNodeFJ
import Derived.Test.YtcmkdoahkncakaaLocalJ
import Derived.Test.YtcmkdoahkncakaaMapJ
import Derived.Test.YtcmkdoahkncakaaPTreeJ
import Derived.Test.YtcmkdoahkncakaaInsJ
import Derived.Test.YtcmkdoahkncakaaLookFJ
import Derived.Test.YtcmkdoahkncakaaCpFJ
import Derived.Test.YtcmkdoahkncakaaRecJ
import Derived.Test.YtcmkdoahkncakaaGrowIFJ
namespace Go.Proofs.Ytcmkdoahkncakaa
set_option linter.unusedVariables false
set_option linter.unusedSimpArgs false
def hiS (s : Span) (x : DSpot) : Span := { s with hi := x, hasHi := true }
def loS (s : Span) (x : DSpot) : Span := { s with lo := x, hasLo := true }
theorem inS_hiS {s : Span} {x y : DSpot} : inS (hiS s x) y = true ↔ (s.hasLo = true → cmpS s.lo y ≤ 0) ∧ cmpS y x < 0 := by
 rw [inS_iff]; unfold hiS; simp
theorem inS_loS {s : Span} {x y : DSpot} : inS (loS s x) y = true ↔ cmpS x y ≤ 0 ∧ (s.hasHi = true → cmpS y s.hi < 0) := by
 rw [inS_iff]; unfold loS; simp
theorem inS_hi_sub {s : Span} {x y : DSpot} (hx : inS s x = true) (h : inS (hiS s x) y = true) : inS s y = true := by
 rw [inS_hiS] at h
 rw [inS_iff] at hx ⊢
 exact ⟨h.1, fun hh => cmp_cmpS.lt_trans h.2 (hx.2 hh)⟩
theorem inS_lo_sub {s : Span} {x y : DSpot} (hx : inS s x = true) (h : inS (loS s x) y = true) : inS s y = true := by
 rw [inS_loS] at h
 rw [inS_iff] at hx ⊢
 exact ⟨fun hh => cmpS_le_le_ (hx.1 hh) h.1, h.2⟩
def Ch (P : Int → Int → Span → Prop) : List DSpot → Span → List Int → List Int → Prop
 | [], s, ks, ts => ∃ k t, ks = [k] ∧ ts = [t] ∧ P k t s
 | x :: xs, s, ks, ts => ∃ k ks' t ts', ks = k :: ks' ∧ ts = t :: ts' ∧ inS s x = true ∧ P k t (hiS s x) ∧ Ch P xs (loS s x) ks' ts'
section
variable {P Q : Int → Int → Span → Prop}
theorem Ch.lens : ∀ {xs : List DSpot} {s : Span} {ks ts : List Int}, Ch P xs s ks ts → xs.length + 1 = ks.length ∧ ts.length = ks.length
 | [], s, ks, ts, ⟨k, t, h1, h2, _⟩ => by subst h1 h2; exact ⟨rfl, rfl⟩
 | x :: xs, s, ks, ts, ⟨k, ks', t, ts', h1, h2, _, _, c⟩ => by
  subst h1 h2
  have := c.lens
  simp only [List.length_cons]; omega
theorem Ch.mono : ∀ {xs : List DSpot} {s : Span} {ks ts : List Int}, (∀ k t s', k ∈ ks → P k t s' → Q k t s') → Ch P xs s ks ts → Ch Q xs s ks ts
 | [], s, ks, ts, h, ⟨k, t, h1, h2, c⟩ => ⟨k, t, h1, h2, h _ _ _ (by rw [h1]; exact List.mem_cons_self) c⟩
 | x :: xs, s, ks, ts, h, ⟨k, ks', t, ts', h1, h2, h3, h4, c⟩ => ⟨k, ks', t, ts', h1, h2, h3, h _ _ _ (by rw [h1]; exact List.mem_cons_self) h4, c.mono fun k t s' hk => h k t s' (by rw [h1]; exact List.mem_cons_of_mem _ hk)⟩
theorem Ch.mem : ∀ {xs : List DSpot} {s : Span} {ks ts : List Int}, Ch P xs s ks ts → ∀ k ∈ ks, ∃ t s', P k t s' ∧ ∀ y, inS s' y = true → inS s y = true
 | [], s, ks, ts, ⟨k, t, h1, h2, c⟩, q, hq => by
  subst h1
  rw [List.mem_singleton.1 hq]; exact ⟨t, s, c, fun _ h => h⟩
 | x :: xs, s, ks, ts, ⟨k, ks', t, ts', h1, h2, h3, h4, c⟩, q, hq => by
  subst h1
  rcases List.mem_cons.1 hq with rfl | hq
  · exact ⟨t, _, h4, fun y h => inS_hi_sub h3 h⟩
  · obtain ⟨t', s', i1, i2⟩ := c.mem q hq
    exact ⟨t', s', i1, fun y h => inS_lo_sub h3 (i2 y h)⟩
theorem Ch.seps : ∀ {xs : List DSpot} {s : Span} {ks ts : List Int}, Ch P xs s ks ts → ∀ x ∈ xs, inS s x = true
 | [], s, ks, ts, c, y, hy => by cases hy
 | x :: xs, s, ks, ts, ⟨k, ks', t, ts', h1, h2, h3, h4, c⟩, y, hy => by
  rcases List.mem_cons.1 hy with rfl | hy
  · exact h3
  · exact inS_lo_sub h3 (c.seps y hy)
theorem Ch.at_ : ∀ {xs : List DSpot} {s : Span} {ks ts : List Int}, Ch P xs s ks ts → ∀ (q : Nat) (k : Int), ks[q]? = some k → ∃ t s', ts[q]? = some t ∧ P k t s' ∧ ∀ y, inS s' y = true → inS s y = true
 | [], s, ks, ts, ⟨k, t, h1, h2, c⟩, q, k', hq => by
  subst h1 h2
  cases q with
  | zero => obtain rfl : k = k' := by simpa using hq
            exact ⟨t, s, rfl, c, fun _ h => h⟩
  | succ q => simp at hq
 | x :: xs, s, ks, ts, ⟨k, ks', t, ts', h1, h2, h3, h4, c⟩, q, k', hq => by
  subst h1 h2
  cases q with
  | zero => obtain rfl : k = k' := by simpa using hq
            exact ⟨t, _, rfl, h4, fun y h => inS_hi_sub h3 h⟩
  | succ q =>
   obtain ⟨t', s', i1, i2, i3⟩ := c.at_ q k' (by simpa using hq)
   exact ⟨t', s', by simpa using i1, i2, fun y h => inS_lo_sub h3 (i3 y h)⟩
theorem Ch.join : ∀ {xs : List DSpot} {s : Span} {ks ts ks' ts' : List Int} {xs' : List DSpot} {x : DSpot}, inS s x = true → Ch P xs (hiS s x) ks ts → Ch P xs' (loS s x) ks' ts' → Ch P (xs ++ x :: xs') s (ks ++ ks') (ts ++ ts')
 | [], s, ks, ts, ks', ts', xs', x, hx, ⟨k, t, h1, h2, c⟩, c' => ⟨k, ks', t, ts', by rw [h1]; rfl, by rw [h2]; rfl, hx, c, c'⟩
 | y :: xs, s, ks, ts, ks', ts', xs', x, hx, ⟨k, ks1, t, ts1, h1, h2, h3, h4, c⟩, c' => by
  subst h1 h2
  have hy := inS_hiS.1 h3
  have e1 : loS (hiS s x) y = hiS (loS s y) x := rfl
  have e2 : loS s x = loS (loS s y) x := rfl
  exact ⟨k, ks1 ++ ks', t, ts1 ++ ts', rfl, rfl, inS_hi_sub hx h3, h4, Ch.join (s := loS s y) (inS_loS.2 ⟨by omega, fun hh => (inS_iff.1 hx).2 hh⟩) (e1 ▸ c) (e2 ▸ c')⟩
theorem Ch.split : ∀ {xs : List DSpot} {s : Span} {ks ts ks' ts' : List Int} {xs' : List DSpot} {x : DSpot}, xs.length + 1 = ks.length → ts.length = ks.length → (xs ++ x :: xs').Pairwise SpotO → Ch P (xs ++ x :: xs') s (ks ++ ks') (ts ++ ts') →
 inS s x = true ∧ Ch P xs (hiS s x) ks ts ∧ Ch P xs' (loS s x) ks' ts'
 | [], s, ks, ts, ks', ts', xs', x, h1, h2, ho, ⟨k, ks1, t, ts1, e1, e2, i1, i2, c⟩ => by
  obtain ⟨a, rfl⟩ := List.length_eq_one_iff.1 h1.symm
  obtain ⟨b, rfl⟩ := List.length_eq_one_iff.1 h2
  obtain ⟨rfl, rfl⟩ : a = k ∧ ks' = ks1 := by simpa using e1
  obtain ⟨rfl, rfl⟩ : b = t ∧ ts' = ts1 := by simpa using e2
  exact ⟨i1, ⟨a, b, rfl, rfl, i2⟩, c⟩
 | y :: xs, s, ks, ts, ks', ts', xs', x, h1, h2, ho, ⟨k, ks1, t, ts1, e1, e2, i1, i2, c⟩ => by
  rw [List.cons_append, List.pairwise_cons] at ho
  have hyx : cmpS y x < 0 := ho.1 x (by simp)
  cases ks with
  | nil => simp at h1
  | cons a ks =>
  cases ts with
  | nil => simp at h2
  | cons b ts =>
  obtain ⟨rfl, rfl⟩ : a = k ∧ ks ++ ks' = ks1 := by simpa using e1
  obtain ⟨rfl, rfl⟩ : b = t ∧ ts ++ ts' = ts1 := by simpa using e2
  obtain ⟨j1, j2, j3⟩ := Ch.split (s := loS s y) (by simpa using h1) (by simpa using h2) ho.2 c
  exact ⟨inS_lo_sub i1 j1, ⟨a, ks, b, ts, rfl, rfl, inS_hiS.2 ⟨(inS_iff.1 i1).1, hyx⟩, i2, j2⟩, j3⟩
theorem Ch.focus : ∀ {XA XM XB : List DSpot} {A M B TA TM TB : List Int} {s : Span}, XA.length = A.length → TA.length = A.length → XM.length + 1 = M.length → TM.length = M.length → XB.length = B.length → TB.length = B.length →
 (XA ++ (XM ++ XB)).Pairwise SpotO → Ch P (XA ++ (XM ++ XB)) s (A ++ (M ++ B)) (TA ++ (TM ++ TB)) →
 ∃ s', Ch P XM s' M TM ∧ (∀ y, inS s' y = true → inS s y = true) ∧ (∀ x ∈ XA, ∀ y, inS s' y = true → cmpS x y ≤ 0) ∧ (∀ x ∈ XB, ∀ y, inS s' y = true → cmpS y x < 0) ∧
  (∀ y, inS s y = true → (∀ x ∈ XA, cmpS x y ≤ 0) → (∀ x ∈ XB, cmpS y x < 0) → inS s' y = true) ∧
  ∀ Q : Int → Int → Span → Prop, (∀ k t s', k ∈ A ∨ k ∈ B → P k t s' → Q k t s') → ∀ M' XM' TM', Ch Q XM' s' M' TM' → Ch Q (XA ++ (XM' ++ XB)) s (A ++ (M' ++ B)) (TA ++ (TM' ++ TB))
 | [], XM, [], A, M, B, TA, TM, TB, s, h1, h2, _, _, h5, h6, _, c => by
  obtain rfl := List.eq_nil_of_length_eq_zero h1.symm
  obtain rfl := List.eq_nil_of_length_eq_zero h2
  obtain rfl := List.eq_nil_of_length_eq_zero h5.symm
  obtain rfl := List.eq_nil_of_length_eq_zero h6
  exact ⟨s, by simpa using c, fun _ h => h, by simp, by simp, fun _ h _ _ => h, fun Q _ M' XM' TM' c' => by simpa using c'⟩
 | [], XM, x :: XB, A, M, B, TA, TM, TB, s, h1, h2, h3, h4, h5, h6, ho, c => by
  obtain rfl := List.eq_nil_of_length_eq_zero h1.symm
  obtain rfl := List.eq_nil_of_length_eq_zero h2
  obtain ⟨i1, i2, i3⟩ := Ch.split (s := s) h3 h4 ho c
  refine ⟨hiS s x, i2, fun y h => inS_hi_sub i1 h, by simp, fun z hz y hy => ?_, fun y hy _ hb => ?_, fun Q hPQ M' XM' TM' c' => ?_⟩
  · have hyx := (inS_hiS.1 hy).2
    rcases List.mem_cons.1 hz with rfl | hz
    · exact hyx
    · have : cmpS x z < 0 := (List.pairwise_cons.1 (List.pairwise_append.1 (show (XM ++ x :: XB).Pairwise SpotO from ho)).2.1).1 z hz
      exact cmp_cmpS.lt_trans hyx this
  · exact inS_hiS.2 ⟨(inS_iff.1 hy).1, hb x List.mem_cons_self⟩
  · show Ch Q (XM' ++ x :: XB) s (M' ++ B) (TM' ++ TB)
    exact Ch.join i1 c' (i3.mono fun k t s' hk => hPQ k t s' (.inr hk))
 | x :: XA, XM, XB, A, M, B, TA, TM, TB, s, h1, h2, h3, h4, h5, h6, ho, ⟨k, ks1, t, ts1, e1, e2, c1, c2, c⟩ => by
  rw [List.cons_append, List.pairwise_cons] at ho
  cases A with
  | nil => simp at h1
  | cons a A =>
  cases TA with
  | nil => simp at h2
  | cons b TA =>
  obtain ⟨rfl, rfl⟩ : a = k ∧ A ++ (M ++ B) = ks1 := by simpa using e1
  obtain ⟨rfl, rfl⟩ : b = t ∧ TA ++ (TM ++ TB) = ts1 := by simpa using e2
  obtain ⟨s', i1, i2, i3, i4, i5, i6⟩ := Ch.focus (s := loS s x) (by simpa using h1) (by simpa using h2) h3 h4 h5 h6 ho.2 c
  refine ⟨s', i1, fun y h => inS_lo_sub c1 (i2 y h), fun z hz y hy => ?_, i4, fun y hy ha hb => ?_, fun Q hPQ M' XM' TM' c' => ⟨a, A ++ (M' ++ B), b, TA ++ (TM' ++ TB), rfl, rfl, c1, hPQ a b _ (.inl List.mem_cons_self) c2, i6 Q (fun k t s' hk => hPQ k t s' (hk.elim (fun h => .inl (List.mem_cons_of_mem _ h)) .inr)) M' XM' TM' c'⟩⟩
  · rcases List.mem_cons.1 hz with rfl | hz
    · exact (inS_loS.1 (i2 y hy)).1
    · exact i3 z hz y hy
  · exact i5 y (inS_loS.2 ⟨ha x List.mem_cons_self, (inS_iff.1 hy).2⟩) (fun z hz => ha z (List.mem_cons_of_mem _ hz)) hb
end
def SubT (ns : List DNode) : Nat → Int → Nat → Span → Prop
 | 0, i, m, s => (0 ≤ i ∧ i < (ns.length : Int)) ∧ (nd ns i).kind = 1 ∧ m ≤ (nd ns i).elems.length ∧ ∀ x ∈ (nd ns i).elems, inS s (spotE x) = true
 | h + 1, i, m, s => (0 ≤ i ∧ i < (ns.length : Int)) ∧ (nd ns i).kind = 2 ∧ m ≤ (nd ns i).kids.length ∧ Ch (fun k t s' => SubT ns h k 4 s' ∧ greatR (nd ns k) = t) (nd ns i).seps s (nd ns i).kids (nd ns i).tids
abbrev KidP (ns : List DNode) (h : Nat) : Int → Int → Span → Prop := fun k t s' => SubT ns h k 4 s' ∧ greatR (nd ns k) = t
theorem SubT.range {ns : List DNode} {h : Nat} {i : Int} {m : Nat} {s : Span} (c : SubT ns h i m s) : 0 ≤ i ∧ i < (ns.length : Int) := by cases h <;> exact c.1
def kS (xs : List DSpot) (s : Span) (q : Nat) : Span := kidSp ⟨2, [], [], xs, []⟩ s q
theorem kS_zero (x : DSpot) (xs : List DSpot) (s : Span) : kS (x :: xs) s 0 = hiS s x := rfl
theorem kS_succ (x : DSpot) (xs : List DSpot) (s : Span) {q : Nat} (hq : q ≤ xs.length) : kS (x :: xs) s (q + 1) = kS xs (loS s x) q := by
 have key : loSp ⟨2, [], [], x :: xs, []⟩ s (q + 1) = loSp ⟨2, [], [], xs, []⟩ (loS s x) q := by
  cases q with
  | zero => rfl
  | succ r =>
   have hr : xs[r]? = some xs[r] := List.getElem?_eq_getElem (by omega)
   show (match (x :: xs)[r + 1]? with | some y => ({ s with lo := y, hasLo := true } : Span) | none => s) = (match xs[r]? with | some y => ({ loS s x with lo := y, hasLo := true } : Span) | none => loS s x)
   rw [List.getElem?_cons_succ, hr]; rfl
 unfold kS kidSp
 rw [key]
 show hiSp ⟨2, [], [], x :: xs, []⟩ (loSp ⟨2, [], [], xs, []⟩ (loS s x) q) (q + 1) = hiSp ⟨2, [], [], xs, []⟩ (loSp ⟨2, [], [], xs, []⟩ (loS s x) q) q
 unfold hiSp
 show (match (x :: xs)[q + 1]? with | some y => _ | none => _) = _
 rw [List.getElem?_cons_succ]
 rfl
theorem ch_iff {P : Int → Int → Span → Prop} : ∀ {xs : List DSpot} {s : Span} {ks ts : List Int}, xs.length + 1 = ks.length → ts.length = ks.length → xs.Pairwise SpotO → (∀ x ∈ xs, inS s x = true) →
 (Ch P xs s ks ts ↔ ∀ (q : Nat) (k t : Int), ks[q]? = some k → ts[q]? = some t → P k t (kS xs s q))
 | [], s, ks, ts, h1, h2, _, _ => by
  obtain ⟨a, rfl⟩ := List.length_eq_one_iff.1 h1.symm
  obtain ⟨b, rfl⟩ := List.length_eq_one_iff.1 h2
  constructor
  · rintro ⟨k, t, e1, e2, c⟩ q k' t' hk ht
    obtain rfl : a = k := by simpa using e1
    obtain rfl : b = t := by simpa using e2
    cases q with
    | zero =>
     obtain rfl : a = k' := by simpa using hk
     obtain rfl : b = t' := by simpa using ht
     exact c
    | succ q => simp at hk
  · intro h
    exact ⟨a, b, rfl, rfl, h 0 a b rfl rfl⟩
 | x :: xs, s, ks, ts, h1, h2, ho, hs => by
  cases ks with
  | nil => simp at h1
  | cons a ks =>
  cases ts with
  | nil => simp at h2
  | cons b ts =>
  rw [List.pairwise_cons] at ho
  have hx := inS_iff.1 (hs x List.mem_cons_self)
  have ih := ch_iff (P := P) (xs := xs) (s := loS s x) (ks := ks) (ts := ts) (by simpa using h1) (by simpa using h2) ho.2 (fun y hy => by
   have hxy : cmpS x y < 0 := ho.1 y hy
   have := inS_iff.1 (hs y (List.mem_cons_of_mem _ hy))
   exact inS_loS.2 ⟨by omega, this.2⟩)
  have hlen : xs.length + 1 = ks.length := by simpa using h1
  constructor
  · rintro ⟨k, ks1, t, ts1, e1, e2, c1, c2, c⟩ q k' t' hk ht
    obtain ⟨rfl, rfl⟩ : a = k ∧ ks = ks1 := by simpa using e1
    obtain ⟨rfl, rfl⟩ : b = t ∧ ts = ts1 := by simpa using e2
    cases q with
    | zero =>
     obtain rfl : a = k' := by simpa using hk
     obtain rfl : b = t' := by simpa using ht
     rw [kS_zero]; exact c2
    | succ q =>
     rw [List.getElem?_cons_succ] at hk ht
     rw [kS_succ x xs s (by have := (List.getElem?_eq_some_iff.1 hk).1; omega)]
     exact ih.1 c q k' t' hk ht
  · intro h
    refine ⟨a, ks, b, ts, rfl, rfl, hs x List.mem_cons_self, by have := h 0 a b rfl rfl; rwa [kS_zero] at this, ih.2 fun q k t hk ht => ?_⟩
    have := h (q + 1) k t (by simpa using hk) (by simpa using ht)
    rwa [kS_succ x xs s (by have := (List.getElem?_eq_some_iff.1 hk).1; omega)] at this
theorem kS_eq (n : DNode) (s : Span) (q : Nat) : kidSp n s q = kS n.seps s q := by
 unfold kS kidSp hiSp
 have : loSp n s q = loSp ⟨2, [], [], n.seps, []⟩ s q := by cases q <;> rfl
 rw [this]
theorem sepBad_all {n : DNode} {s : Span} : (∀ q, q ≤ n.seps.length → sepBad n s q = false) ↔ ∀ x ∈ n.seps, inS s x = true := by
 have key : ∀ q x, n.seps[q]? = some x → (sepBad n s (q + 1) = false ↔ inS s x = true) := fun q x hx => by
  have e : sepBad n s (q + 1) = !inS s x := by
   show (match n.seps[q]? with | some x => !inS s x | none => false) = _
   rw [hx]
  rw [e]; simp
 constructor
 · intro h x hx
   obtain ⟨q, hq⟩ := List.mem_iff_getElem?.1 hx
   have := (List.getElem?_eq_some_iff.1 hq).1
   exact (key q x hq).1 (h (q + 1) (by omega))
 · intro h q hq
   cases q with
   | zero => rfl
   | succ q =>
    have hx : n.seps[q]? = some n.seps[q] := List.getElem?_eq_getElem (by omega)
    exact (key q _ hx).2 (h _ (List.getElem_mem _))
def mOf (d : Int) (h : Nat) : Nat := if 0 < d then 4 else if h = 0 then 0 else 2
theorem okN_sub {ns : List DNode} (hns : ∀ n ∈ ns, chkN n = 0) : ∀ (h : Nat) (i d : Int) (s : Span), 0 ≤ d → (okN ns h i d s ↔ SubT ns h i (mOf d h) s) := by
 intro h
 induction h with
 | zero =>
  intro i d s hd
  have hm : ∀ L : Leaf (nd ns i), ((0 < d → 4 ≤ (nd ns i).elems.length + (nd ns i).kids.length) ↔ mOf d 0 ≤ (nd ns i).elems.length) := fun L => by
   rw [L.kids]; unfold mOf
   by_cases h : 0 < d
   · rw [if_pos h]; simp [h]
   · rw [if_neg h]; simp [h]
  constructor
  · rintro ⟨h1, h2, h3, h4⟩
    exact ⟨h1, h2, (hm (leaf_of hns h1 h2)).1 h3, h4⟩
  · rintro ⟨h1, h2, h3, h4⟩
    exact ⟨h1, h2, (hm (leaf_of hns h1 h2)).2 h3, h4⟩
 | succ h ih =>
  intro i d s hd
  have hm : ∀ L : Inner (nd ns i), ((0 < d → 4 ≤ (nd ns i).elems.length + (nd ns i).kids.length) ↔ mOf d (h + 1) ≤ (nd ns i).kids.length) := fun L => by
   rw [L.elems]; unfold mOf
   have := L.two
   by_cases h : 0 < d
   · rw [if_pos h]; simp [h]
   · rw [if_neg h]; simp [h]; omega
  have h4 : mOf (d + 1) h = 4 := by unfold mOf; rw [if_pos (by omega)]
  constructor
  · rintro ⟨h1, h2, h3, h5⟩
    obtain ⟨hk, L⟩ := inner_of hns h1 h2
    refine ⟨h1, hk, (hm L).1 h3, ?_⟩
    refine (ch_iff L.seps L.tids L.ord (sepBad_all.1 fun q hq => ?_)).2 fun q k t hk' ht => ?_
    · have hlen := L.seps
      have hkk : (nd ns i).kids[q]? = some (nd ns i).kids[q] := List.getElem?_eq_getElem (by omega)
      exact (h5 (_, q) (zip_mem hkk)).2.1
    · obtain ⟨c1, _, c3⟩ := h5 (k, q) (zip_mem hk')
      dsimp only at c1 c3
      rw [kS_eq] at c1
      have := (ih k (d + 1) _ (by omega)).1 c1
      rw [h4] at this
      exact ⟨this, by rw [c3, ht]; rfl⟩
  · rintro ⟨h1, h2, h3, h5⟩
    obtain ⟨hk, L⟩ := inner_of hns h1 ⟨by rw [h2]; decide, by rw [h2]; decide⟩
    have hseps := h5.seps
    refine ⟨h1, ⟨by rw [h2]; decide, by rw [h2]; decide⟩, (hm L).2 h3, fun p hp => ?_⟩
    rw [List.mem_zipIdx_iff_getElem?] at hp
    have hpl := (List.getElem?_eq_some_iff.1 hp).1
    have htl := L.tids
    have ht : (nd ns i).tids[p.2]? = some (nd ns i).tids[p.2] := List.getElem?_eq_getElem (by omega)
    obtain ⟨c1, c2⟩ := (ch_iff L.seps L.tids L.ord hseps).1 h5 p.2 p.1 _ hp ht
    refine ⟨?_, sepBad_all.2 hseps p.2 (by have := L.seps; omega), by rw [c2, ht]; rfl⟩
    rw [kS_eq]
    rw [← h4] at c1
    exact (ih p.1 (d + 1) _ (by omega)).2 c1
theorem flat_same {f g : Int → List Nat} : ∀ {l : List Int}, (∀ a ∈ l, f a = g a) → l.flatMap f = l.flatMap g
 | [], _ => rfl
 | a :: l, h => by rw [List.flatMap_cons, List.flatMap_cons, h a List.mem_cons_self, flat_same fun b hb => h b (List.mem_cons_of_mem _ hb)]
theorem SubT.same {ns ns' : List DNode} (hl : ns.length ≤ ns'.length) : ∀ {h : Nat} {i : Int} {m : Nat} {s : Span}, SubT ns h i m s → (∀ j ∈ ids ns h i, ns'[j]? = ns[j]?) →
 SubT ns' h i m s ∧ ids ns' h i = ids ns h i ∧ elemsAt ns' h i = elemsAt ns h i ∧ nd ns' i = nd ns i := by
 intro h
 induction h with
 | zero =>
  intro i m s c hj
  have e : nd ns' i = nd ns i := by unfold nd; rw [hj i.toNat (by simp [ids])]
  refine ⟨?_, rfl, by unfold elemsAt; rw [e], e⟩
  obtain ⟨h1, h2, h3, h4⟩ := c
  exact ⟨⟨h1.1, by omega⟩, by rw [e]; exact h2, by rw [e]; exact h3, by rw [e]; exact h4⟩
 | succ h ih =>
  intro i m s c hj
  have e : nd ns' i = nd ns i := by unfold nd; rw [hj i.toNat (by simp [ids])]
  obtain ⟨h1, h2, h3, h4⟩ := c
  have hkid : ∀ k ∈ (nd ns i).kids, ∀ {m : Nat} {s : Span}, SubT ns h k m s → SubT ns' h k m s ∧ ids ns' h k = ids ns h k ∧ elemsAt ns' h k = elemsAt ns h k ∧ nd ns' k = nd ns k := fun k hk {m s} c =>
   ih c fun j hjk => hj j (by rw [ids]; exact List.mem_cons_of_mem _ (List.mem_flatMap.2 ⟨k, hk, hjk⟩))
  refine ⟨⟨⟨h1.1, by omega⟩, by rw [e]; exact h2, by rw [e]; exact h3, ?_⟩, ?_, ?_, e⟩
  · rw [e]
    exact h4.mono fun k t s' hk c => ⟨(hkid k hk c.1).1, by rw [(hkid k hk c.1).2.2.2]; exact c.2⟩
  · rw [ids, ids, e]
    congr 1
    exact flat_same fun k hk => by obtain ⟨t, s', c, _⟩ := h4.mem k hk; exact (hkid k hk c.1).2.1
  · rw [elemsAt, elemsAt, e]
    exact flatMap_same fun k hk => by obtain ⟨t, s', c, _⟩ := h4.mem k hk; exact (hkid k hk c.1).2.2.1
end Go.Proofs.Ytcmkdoahkncakaa
namespace Go.Proofs.Ytcmkdoahkncakaa
set_option linter.unusedVariables false
set_option linter.unusedSimpArgs false
abbrev NL := List (Int ⊕ DNode)
def zN : DNode := ⟨0, [], [], [], []⟩
def fN1 : Int ⊕ DNode → DNode
 | .inl _ => zN
 | .inr n => n
def fN (N : NL) : List DNode := N.map fN1
theorem fN_length (N : NL) : (fN N).length = N.length := List.length_map ..
theorem fN_get (N : NL) (j : Nat) : (fN N)[j]? = (N[j]?).map fN1 := List.getElem?_map ..
theorem fN_agree {N N' : NL} {j : Nat} (h : N'[j]? = N[j]?) : (fN N')[j]? = (fN N)[j]? := by rw [fN_get, fN_get, h]
theorem fN_inr (l : List DNode) : fN (l.map Sum.inr) = l := by
 unfold fN
 rw [List.map_map]
 exact List.map_id'' (fun _ => rfl) l
theorem outAt_get (N : NL) {i : Int} {j : Nat} (h : j ≠ i.toNat) : (outAt N i)[j]? = N[j]? := by unfold outAt; rw [List.getElem?_set_ne (by omega)]
theorem putAt_get (N : NL) {i : Int} {n : DNode} {j : Nat} (h : j ≠ i.toNat) : (putAt N i n)[j]? = N[j]? := by unfold putAt; rw [List.getElem?_set_ne (by omega)]
theorem putAt_self (N : NL) {i : Int} {n : DNode} (h : i.toNat < N.length) : (putAt N i n)[i.toNat]? = some (.inr n) := by unfold putAt; rw [List.getElem?_set_self h]
theorem outAt_length (N : NL) (i : Int) : (outAt N i).length = N.length := by unfold outAt; rw [List.length_set]
theorem putAt_length (N : NL) (i : Int) (n : DNode) : (putAt N i n).length = N.length := by unfold putAt; rw [List.length_set]
def kd (N : NL) (j : Nat) : Option Int := (N[j]?).map kindN
theorem outAt_kd (N : NL) (i : Int) (j : Nat) : kd (outAt N i) j = kd N j := by
 unfold kd outAt
 rw [List.getElem?_set]
 split
 · rename_i e; subst e
   split
   · rename_i h; rw [List.getElem?_eq_getElem h]; rfl
   · rename_i h; rw [List.getElem?_eq_none (by omega)]
 · rfl
def ChkL (N : NL) : Prop := ∀ n ∈ fN N, chkN n = 0
theorem ChkL.out {N : NL} (h : ChkL N) (i : Int) : ChkL (outAt N i) := fun n hn => by
 obtain ⟨x, hx, rfl⟩ := List.mem_map.1 hn
 rcases List.mem_or_eq_of_mem_set hx with hx | rfl
 · exact h _ (List.mem_map.2 ⟨x, hx, rfl⟩)
 · show chkN zN = 0; decide
theorem ChkL.put {N : NL} (h : ChkL N) {i : Int} {n : DNode} (hn : chkN n = 0) : ChkL (putAt N i n) := fun m hm => by
 obtain ⟨x, hx, rfl⟩ := List.mem_map.1 hm
 rcases List.mem_or_eq_of_mem_set hx with hx | rfl
 · exact h _ (List.mem_map.2 ⟨x, hx, rfl⟩)
 · exact hn
theorem ChkL.push {N : NL} (h : ChkL N) {n : DNode} (hn : chkN n = 0) : ChkL (N ++ [.inr n]) := fun m hm => by
 obtain ⟨x, hx, rfl⟩ := List.mem_map.1 hm
 rcases List.mem_append.1 hx with hx | hx
 · exact h _ (List.mem_map.2 ⟨x, hx, rfl⟩)
 · rw [List.mem_singleton.1 hx]; exact hn
theorem node_at {N : NL} {i : Int} (h : 0 ≤ i ∧ i < ((fN N).length : Int)) (hk : (nd (fN N) i).kind ≠ 0) : nodeAt N i = some (nd (fN N) i) ∧ N[i.toNat]? = some (.inr (nd (fN N) i)) := by
 rw [fN_length] at h
 have hg : N[i.toNat]? = some N[i.toNat] := List.getElem?_eq_getElem (by omega)
 have hn : nd (fN N) i = fN1 N[i.toNat] := by
  unfold nd; rw [fN_get, hg]; rfl
 cases hx : N[i.toNat] with
 | inl k =>
  rw [hn, hx] at hk
  exact absurd rfl hk
 | inr n =>
  rw [hn, hx]
  unfold nodeAt
  rw [if_neg (by omega), hg, hx]
  exact ⟨rfl, rfl⟩
theorem SubT.kind {ns : List DNode} {h : Nat} {i : Int} {m : Nat} {s : Span} (c : SubT ns h i m s) : (nd ns i).kind ≠ 0 := by
 cases h with
 | zero => rw [c.2.1]; decide
 | succ h => rw [c.2.1]; decide
theorem SubT.node {N : NL} {h : Nat} {i : Int} {m : Nat} {s : Span} (c : SubT (fN N) h i m s) : nodeAt N i = some (nd (fN N) i) ∧ N[i.toNat]? = some (.inr (nd (fN N) i)) := node_at c.range c.kind
theorem has_at {N : NL} {i : Int} (h : 0 ≤ i ∧ i < (N.length : Int)) : hasAt N i = some () := by unfold hasAt; rw [if_pos h]
theorem nd_put {N : NL} {i : Int} {n : DNode} (h : 0 ≤ i ∧ i < (N.length : Int)) : nd (fN (putAt N i n)) i = n := by
 unfold nd
 rw [fN_get, putAt_self N (by omega)]; rfl
theorem SubT.agree {N N' : NL} (hl : N.length ≤ N'.length) {h : Nat} {i : Int} {m : Nat} {s : Span} (c : SubT (fN N) h i m s) (hj : ∀ j ∈ ids (fN N) h i, N'[j]? = N[j]?) :
 SubT (fN N') h i m s ∧ ids (fN N') h i = ids (fN N) h i ∧ elemsAt (fN N') h i = elemsAt (fN N) h i ∧ nd (fN N') i = nd (fN N) i :=
 SubT.same (by rw [fN_length, fN_length]; exact hl) c fun j hjm => fN_agree (hj j hjm)
theorem SubT.head {ns : List DNode} (h : Nat) (i : Int) : i.toNat ∈ ids ns h i := by cases h <;> simp [ids]
theorem Ch.before {P : Int → Int → Span → Prop} : ∀ {XA X : List DSpot} {s : Span} {A K TA T : List Int}, XA.length = A.length → TA.length = A.length → Ch P (XA ++ X) s (A ++ K) (TA ++ T) → ∀ k ∈ A, ∃ t s', P k t s' ∧ ∀ y, inS s' y = true → ∃ x ∈ XA, cmpS y x < 0
 | [], X, s, A, K, TA, T, h1, _, _, k, hk => by
  obtain rfl := List.eq_nil_of_length_eq_zero h1.symm
  cases hk
 | x :: XA, X, s, A, K, TA, T, h1, h2, ⟨a, ks, t, ts, e1, e2, c1, c2, c⟩, k, hk => by
  cases A with
  | nil => simp at h1
  | cons b A =>
  cases TA with
  | nil => simp at h2
  | cons u TA =>
  obtain ⟨rfl, rfl⟩ : b = a ∧ A ++ K = ks := by simpa using e1
  obtain ⟨rfl, rfl⟩ : u = t ∧ TA ++ T = ts := by simpa using e2
  rcases List.mem_cons.1 hk with rfl | hk
  · exact ⟨u, _, c2, fun y hy => ⟨x, List.mem_cons_self, (inS_hiS.1 hy).2⟩⟩
  · obtain ⟨t', s', i1, i2⟩ := Ch.before (by simpa using h1) (by simpa using h2) c k hk
    exact ⟨t', s', i1, fun y hy => by obtain ⟨z, hz, hzy⟩ := i2 y hy; exact ⟨z, List.mem_cons_of_mem _ hz, hzy⟩⟩
theorem Ch.behind {P : Int → Int → Span → Prop} : ∀ {XA XB : List DSpot} {x : DSpot} {s : Span} {A B TA TB : List Int}, XA.length + 1 = A.length → TA.length = A.length → Ch P (XA ++ x :: XB) s (A ++ B) (TA ++ TB) → ∀ k ∈ B, ∃ t s', P k t s' ∧ ∀ y, inS s' y = true → cmpS x y ≤ 0
 | [], XB, x, s, A, B, TA, TB, h1, h2, ⟨a, ks, t, ts, e1, e2, c1, c2, c⟩, k, hk => by
  obtain ⟨b, rfl⟩ := List.length_eq_one_iff.1 h1.symm
  obtain ⟨u, rfl⟩ := List.length_eq_one_iff.1 h2
  obtain ⟨rfl, rfl⟩ : b = a ∧ B = ks := by simpa using e1
  obtain ⟨rfl, rfl⟩ : u = t ∧ TB = ts := by simpa using e2
  obtain ⟨t', s', i1, i2⟩ := c.mem k hk
  exact ⟨t', s', i1, fun y hy => (inS_loS.1 (i2 y hy)).1⟩
 | z :: XA, XB, x, s, A, B, TA, TB, h1, h2, ⟨a, ks, t, ts, e1, e2, c1, c2, c⟩, k, hk => by
  cases A with
  | nil => simp at h1
  | cons b A =>
  cases TA with
  | nil => simp at h2
  | cons u TA =>
  obtain ⟨rfl, rfl⟩ : b = a ∧ A ++ B = ks := by simpa using e1
  obtain ⟨rfl, rfl⟩ : u = t ∧ TA ++ TB = ts := by simpa using e2
  exact Ch.behind (by simpa using h1) (by simpa using h2) c k hk
theorem list_at {α : Type} (l : List α) {w : Nat} (h : w < l.length) : l = l.take w ++ l[w] :: l.drop (w + 1) := by
 rw [← List.drop_eq_getElem_cons h, List.take_append_drop]
structure Foc (P : Int → Int → Span → Prop) (n : DNode) (s : Span) (sp : DSpot) (A : List Int) (k : Int) (B : List Int) (XA XB : List DSpot) (TA : List Int) (t : Int) (TB : List Int) (s' : Span) : Prop where
 kids : n.kids = A ++ k :: B
 seps : n.seps = XA ++ XB
 tids : n.tids = TA ++ t :: TB
 xa : XA.length = A.length
 ta : TA.length = A.length
 xb : XB.length = B.length
 tb : TB.length = B.length
 way : wayR n.seps sp = A.length
 here : P k t s'
 in_ : inS s' sp = true
 sub : ∀ y, inS s' y = true → inS s y = true
 lo : ∀ k' ∈ A, ∃ t' s'', P k' t' s'' ∧ ∀ y, inS s'' y = true → cmpS y sp < 0
 hi : ∀ k' ∈ B, ∃ t' s'', P k' t' s'' ∧ ∀ y, inS s'' y = true → cmpS sp y < 0
 loX : ∀ x ∈ XA, ∀ y, inS s' y = true → cmpS x y ≤ 0
 hiX : ∀ x ∈ XB, ∀ y, inS s' y = true → cmpS y x < 0
 turn : ∀ Q : Int → Int → Span → Prop, (∀ k t s', k ∈ A ∨ k ∈ B → P k t s' → Q k t s') → ∀ M' XM' TM', Ch Q XM' s' M' TM' → Ch Q (XA ++ (XM' ++ XB)) s (A ++ (M' ++ B)) (TA ++ (TM' ++ TB))
theorem focus1 {P : Int → Int → Span → Prop} {n : DNode} {s : Span} {sp : DSpot} (h1 : n.seps.length + 1 = n.kids.length) (h2 : n.tids.length = n.kids.length) (ho : n.seps.Pairwise SpotO) (c : Ch P n.seps s n.kids n.tids) (hs : inS s sp = true) :
 ∃ A k B XA XB TA t TB s', Foc P n s sp A k B XA XB TA t TB s' := by
 have hw := wayR_le n.seps sp
 obtain ⟨w1, w2⟩ := wayR_at n.seps sp
 generalize hwe : wayR n.seps sp = w at *
 have e1 := list_at n.kids (w := w) (by omega)
 have e2 := list_at n.tids (w := w) (by omega)
 have e3 : n.seps = n.seps.take w ++ n.seps.drop w := (List.take_append_drop _ _).symm
 have l1 : (n.kids.take w).length = w := by rw [List.length_take]; omega
 have l2 : (n.tids.take w).length = w := by rw [List.length_take]; omega
 have l3 : (n.seps.take w).length = w := by rw [List.length_take]; omega
 have l4 : (n.kids.drop (w + 1)).length = n.kids.length - (w + 1) := List.length_drop
 have l5 : (n.tids.drop (w + 1)).length = n.tids.length - (w + 1) := List.length_drop
 have l6 : (n.seps.drop w).length = n.seps.length - w := List.length_drop
 have xa : ∀ x ∈ n.seps.take w, cmpS x sp ≤ 0 := fun x hx => by
  obtain ⟨q, hq⟩ := List.mem_iff_getElem?.1 hx
  have hql := (List.getElem?_eq_some_iff.1 hq).1
  rw [List.getElem?_take_of_lt (by omega)] at hq
  exact w1 q x (by omega) hq
 have xb : ∀ x ∈ n.seps.drop w, cmpS sp x < 0 := fun x hx => by
  have hlt : w < n.seps.length := by
   obtain ⟨q, hq⟩ := List.mem_iff_getElem?.1 hx
   have := (List.getElem?_eq_some_iff.1 hq).1; omega
  have h0 : n.seps[w]? = some n.seps[w] := List.getElem?_eq_getElem hlt
  have h3 := w2 _ h0
  have h4 : cmpS sp n.seps[w] < 0 := by
   have := cmp_cmpS.neg n.seps[w] sp
   omega
  rw [List.drop_eq_getElem_cons hlt] at hx
  rcases List.mem_cons.1 hx with rfl | hx
  · exact h4
  · obtain ⟨q, hq⟩ := List.mem_iff_getElem?.1 hx
    rw [List.getElem?_drop] at hq
    exact cmp_cmpS.lt_trans h4 (pairwise_at ho (by omega) h0 hq)
 have c' := c
 rw [e1, e2, e3] at c'
 have ho' := ho
 rw [e3] at ho'
 obtain ⟨s', i1, i2, i3, i4, i5, i6⟩ := Ch.focus (XM := []) (M := [n.kids[w]]) (TM := [n.tids[w]]) (by omega) (by omega) rfl rfl (by omega) (by omega) ho' c'
 obtain ⟨k, t, hk, ht, hP⟩ := i1
 obtain rfl : n.kids[w] = k := by simpa using hk
 obtain rfl : n.tids[w] = t := by simpa using ht
 refine ⟨_, _, _, n.seps.take w, n.seps.drop w, _, _, _, s', e1, e3, e2, by omega, by omega, by omega, by omega, by rw [hwe, l1], hP, ?_, i2, fun k' hk' => ?_, fun k' hk' => ?_, i3, i4, i6⟩
 · exact i5 sp hs (fun x hx => xa x hx) (fun x hx => xb x hx)
 · obtain ⟨t', s'', j1, j2⟩ := Ch.before (by omega) (by omega) c' k' hk'
   exact ⟨t', s'', j1, fun y hy => by obtain ⟨x, hx, hxy⟩ := j2 y hy; exact cmpS_lt_le hxy (xa x hx)⟩
 · have hne : n.seps.drop w ≠ [] := fun e => by
    have : (n.kids.drop (w + 1)).length = 0 := by rw [e] at l6; simp at l6; omega
    rw [List.eq_nil_of_length_eq_zero this] at hk'; cases hk'
   obtain ⟨x, XB, hX⟩ := List.exists_cons_of_ne_nil hne
   have c2 := c'
   rw [hX, show n.kids.take w ++ n.kids[w] :: n.kids.drop (w + 1) = (n.kids.take w ++ [n.kids[w]]) ++ n.kids.drop (w + 1) by simp, show n.tids.take w ++ n.tids[w] :: n.tids.drop (w + 1) = (n.tids.take w ++ [n.tids[w]]) ++ n.tids.drop (w + 1) by simp] at c2
   obtain ⟨t', s'', j1, j2⟩ := Ch.behind (by simp; omega) (by simp; omega) c2 k' hk'
   exact ⟨t', s'', j1, fun y hy => cmpS_lt_le (xb x (by rw [hX]; exact List.mem_cons_self)) (j2 y hy)⟩
theorem SubT.weak {ns : List DNode} {h : Nat} {i : Int} {m m' : Nat} {s : Span} (hm : m' ≤ m) (c : SubT ns h i m s) : SubT ns h i m' s := by
 cases h with
 | zero => exact ⟨c.1, c.2.1, Nat.le_trans hm c.2.2.1, c.2.2.2⟩
 | succ h => exact ⟨c.1, c.2.1, Nat.le_trans hm c.2.2.1, c.2.2.2⟩
theorem SubT.leaf {ns : List DNode} (hns : ∀ n ∈ ns, chkN n = 0) {i : Int} {m : Nat} {s : Span} (c : SubT ns 0 i m s) : Leaf (nd ns i) := leaf_of hns c.1 c.2.1
theorem SubT.inner {ns : List DNode} (hns : ∀ n ∈ ns, chkN n = 0) {h : Nat} {i : Int} {m : Nat} {s : Span} (c : SubT ns (h + 1) i m s) : Inner (nd ns i) := (inner_of hns c.1 ⟨by rw [c.2.1]; decide, by rw [c.2.1]; decide⟩).2
theorem SubT.elems {ns : List DNode} (hns : ∀ n ∈ ns, chkN n = 0) {h : Nat} {i : Int} {m : Nat} {s : Span} (c : SubT ns h i m s) : (elemsAt ns h i).Pairwise SpO ∧ ∀ e ∈ elemsAt ns h i, inS s (spotE e) = true ∧ chkE e = 0 := by
 have h0 : SubT ns h i (mOf 0 h) s := by
  cases h with
  | zero => exact c.weak (Nat.zero_le _)
  | succ h => exact ⟨c.1, c.2.1, (c.inner hns).two, c.2.2.2⟩
 exact elems_sorted hns h i 0 s ((okN_sub hns h i 0 s (Int.le_refl _)).2 h0)
theorem nodup_parts {f : Int → List Nat} {i : Nat} {A B : List Int} {k : Int} (h : (i :: (A ++ k :: B).flatMap f).Nodup) :
 i ∉ f k ∧ (f k).Nodup ∧ (∀ a, a ∈ A ∨ a ∈ B → i ∉ f a ∧ ∀ j ∈ f a, j ∉ f k) := by
 rw [List.flatMap_append, List.flatMap_cons, List.nodup_cons] at h
 obtain ⟨h1, h2⟩ := h
 rw [List.nodup_append] at h2
 obtain ⟨h3, h4, h5⟩ := h2
 rw [List.nodup_append] at h4
 obtain ⟨h6, h7, h8⟩ := h4
 simp only [List.mem_append, not_or] at h1
 refine ⟨h1.2.1, h6, fun a ha => ⟨fun hi => ?_, fun j hj hk => ?_⟩⟩
 · rcases ha with ha | ha
   · exact h1.1 (List.mem_flatMap.2 ⟨a, ha, hi⟩)
   · exact h1.2.2 (List.mem_flatMap.2 ⟨a, ha, hi⟩)
 · rcases ha with ha | ha
   · exact h5 j (List.mem_flatMap.2 ⟨a, ha, hj⟩) j (List.mem_append_left _ hk) rfl
   · exact h8 j hk j (List.mem_flatMap.2 ⟨a, ha, hj⟩) rfl
theorem idx_mid {α : Type} (A : List α) (x : α) (B : List α) : idx (A ++ x :: B) (A.length : Int) = some x := by
 rw [idx_nat', List.getElem?_append_right (Nat.le_refl _)]; simp
theorem set_len {α : Type} (A : List α) (x y : α) (B : List α) : (A ++ x :: B).set A.length y = A ++ y :: B := by
 rw [List.set_append_right _ _ (Nat.le_refl _)]; simp
end Go.Proofs.Ytcmkdoahkncakaa
namespace Go.Proofs.Ytcmkdoahkncakaa
set_option linter.unusedVariables false
def build_shares (F : Nat) (p0 : Int) : Option (((List Int))) :=
 (iter (σ := (List Int) × Int) (ρ := (List Int)) (fun x => match x with
  | (x1, x2) =>
   bif decide (x2 < (if (1 : Int) < (IntKind.i64.wrap ((IntKind.i64.wrap ((IntKind.i64.wrap (p0 + 8)) - 1) : Int).tdiv 8)) then IntKind.i64.wrap ((IntKind.i64.wrap ((IntKind.i64.wrap (p0 + 8)) - 1) : Int).tdiv 8) else 1)) then
    (toDiv (if (1 : Int) < (IntKind.i64.wrap ((IntKind.i64.wrap ((IntKind.i64.wrap (p0 + 8)) - 1) : Int).tdiv 8)) then IntKind.i64.wrap ((IntKind.i64.wrap ((IntKind.i64.wrap (p0 + 8)) - 1) : Int).tdiv 8) else 1)).bind fun d1 =>
    (toDiv (if (1 : Int) < (IntKind.i64.wrap ((IntKind.i64.wrap ((IntKind.i64.wrap (p0 + 8)) - 1) : Int).tdiv 8)) then IntKind.i64.wrap ((IntKind.i64.wrap ((IntKind.i64.wrap (p0 + 8)) - 1) : Int).tdiv 8) else 1)).bind fun d2 =>
    (grow 8 x1 [IntKind.i64.wrap ((IntKind.i64.wrap ((IntKind.i64.wrap (p0 * (IntKind.i64.wrap (x2 + 1)))).tdiv d1)) - (IntKind.i64.wrap ((IntKind.i64.wrap (p0 * x2)).tdiv d2)))]).bind fun _ =>
    some (.inl ((x1 ++ [IntKind.i64.wrap ((IntKind.i64.wrap ((IntKind.i64.wrap (p0 * (IntKind.i64.wrap (x2 + 1)))).tdiv d1)) - (IntKind.i64.wrap ((IntKind.i64.wrap (p0 * x2)).tdiv d2)))]), IntKind.i64.wrap (x2 + 1)))
    else
     some (.inr x1)) F ([], 0)).bind fun z1 =>
 some z1
def build_Of (F : Nat) (p0 : (List DElem)) : Option (DTree × Int) :=
 bif decide ((400 : Int) < (p0.length : Int)) then
  some ((DTree.mk 0 []), 2)
 else
  (iter (σ := Int) (ρ := (Unit) ⊕ (DTree × Int)) (fun x1 =>
   bif decide (x1 < (p0.length : Int)) then
    (idx p0 x1).bind fun e1 =>
    (elem_Check e1).bind fun r1 =>
    bif (r1 != 0) then
     some (.inr (.inr ((DTree.mk 0 []), r1)))
    else
     (
      bif decide ((0 : Int) < x1) then
       (idx p0 (IntKind.i64.wrap (x1 - 1))).bind fun e2 =>
       (elem_Spot e2).bind fun r2 =>
       (elem_Spot e1).bind fun r3 =>
       (key_CmpSpot r2 r3).bind fun r4 =>
       some (decide ((0 : Int) ≤ r4))
       else
        some false : Option (Bool)).bind fun z1 =>
     bif z1 then
      some (.inr (.inr ((DTree.mk 0 []), 3)))
     else
      some (.inl (IntKind.i64.wrap (x1 + 1)))
    else
     some (.inr (.inl ()))) F 0).bind fun z => match z with
   | .inl _ =>
    (build_shares F (p0.length : Int)).bind fun r5 =>
    (iter (σ := (List DNode) × (List Dbuild_low) × (List DElem) × Int) (ρ := (List DNode) × (List Dbuild_low)) (fun x => match x with
     | (x2, x3, x4, x5) =>
      bif decide (x5 < (r5.length : Int)) then
       (idx r5 x5).bind fun e3 =>
       (
        bif decide ((0 : Int) < e3) then
         (idx x4 0).bind fun e4 =>
         (elem_Spot e4).bind fun r8 =>
         some (r8.key.pfs, r8.key.obj, r8.key.off, r8.made)
         else
          some (0, 0, 0, 0) : Option (Int × Int × Int × Int)).bind fun z => match z with
        | (z4, z5, z6, z7) =>
         (lslice x4 0 e3).bind fun s2 =>
         (grow 56 ([] : List DElem) s2).bind fun y3 =>
         (grow 104 x2 [(DNode.mk 1 (([] : List DElem) ++ s2) [] [] [])]).bind fun y4 =>
         (grow 40 x3 [(Dbuild_low.mk (x2.length : Int) (DSpot.mk (DKey.mk z4 z5 z6) z7))]).bind fun _ =>
         (lslice x4 e3 (x4.length : Int)).bind fun s3 =>
         some (.inl ((x2 ++ [(DNode.mk 1 (([] : List DElem) ++ s2) [] [] [])]), (x3 ++ [(Dbuild_low.mk (x2.length : Int) (DSpot.mk (DKey.mk z4 z5 z6) z7))]), s3, IntKind.i64.wrap (x5 + 1)))
       else
        some (.inr (x2, x3))) F ([], [], p0, 0)).bind fun z => match z with
     | (z2, z3) =>
      (iter (σ := (List DNode) × (List Dbuild_low)) (ρ := (List DNode) × (List Dbuild_low)) (fun x => match x with
       | (x6, x7) =>
        bif decide ((1 : Int) < (x7.length : Int)) then
         (build_shares F (x7.length : Int)).bind fun r10 =>
         (iter (σ := (List Dbuild_low) × (List DNode) × (List Dbuild_low) × Int) (ρ := (List Dbuild_low) × (List DNode)) (fun x => match x with
          | (x8, x9, x10, x11) =>
           bif decide (x11 < (r10.length : Int)) then
            (idx r10 x11).bind fun e5 =>
            (lslice x10 0 e5).bind fun s6 =>
            (iter (σ := (List DSpot) × (List Int) × (List Int) × Int) (ρ := (List DSpot) × (List Int) × (List Int)) (fun x => match x with
             | (x12, x13, x14, x15) =>
              bif decide (x15 < (s6.length : Int)) then
               (
                (idx s6 x15).bind fun e6 =>
                 (grow 8 x14 [e6.i]).bind fun _ =>
                 (idx x9 e6.i).bind fun e7 =>
                 (node_Greatest F e7).bind fun r15 =>
                 (grow 8 x13 [r15]).bind fun y10 =>
                 bif decide ((0 : Int) < x15) then
                  (grow 32 x12 [e6.s]).bind fun _ =>
                  some ((x12 ++ [e6.s]), (x13 ++ [r15]), (x14 ++ [e6.i]))
                 else
                  some (x12, (x13 ++ [r15]), (x14 ++ [e6.i])) : Option ((List DSpot) × (List Int) × (List Int))).bind fun z => match z with
                | (z15, z16, z17) =>
                 some (.inl (z15, z16, z17, IntKind.i64.wrap (x15 + 1)))
               else
                some (.inr (x12, x13, x14))) F ([], [], [], 0)).bind fun z => match z with
             | (z12, z13, z14) =>
              (idx x10 0).bind fun e8 =>
              (grow 40 x8 [(Dbuild_low.mk (x9.length : Int) e8.s)]).bind fun _ =>
              (grow 104 x9 [(DNode.mk 2 [] z14 z12 z13)]).bind fun _ =>
              (lslice x10 e5 (x10.length : Int)).bind fun s8 =>
              some (.inl ((x8 ++ [(Dbuild_low.mk (x9.length : Int) e8.s)]), (x9 ++ [(DNode.mk 2 [] z14 z12 z13)]), s8, IntKind.i64.wrap (x11 + 1)))
            else
             some (.inr (x8, x9))) F ([], x6, x7, 0)).bind fun z => match z with
          | (z10, z11) =>
           some (.inl (z11, z10))
         else
          some (.inr (x6, x7))) F (z2, z3)).bind fun z => match z with
       | (z8, z9) =>
        (idx z9 0).bind fun e9 =>
        some ((DTree.mk e9.i z8), 0)
   | .inr q => some q
def annalkeep_of (F : Nat) (p0 : (List DElem)) : Option (DTree) :=
 (build_Of F p0).bind fun r1 =>
 some r1.1
end Go.Proofs.Ytcmkdoahkncakaa
namespace Go.Proofs.Ytcmkdoahkncakaa
set_option linter.unusedVariables false
set_option linter.unusedSimpArgs false
variable {F : Nat} [Big F]
def share (n i : Nat) : Nat := off n (kOf n) (i + 1) - off n (kOf n) i
def sharesR (n : Nat) : List Int := (List.range (kOf n)).map fun i => ((share n i : Nat) : Int)
theorem sharesR_length (n : Nat) : (sharesR n).length = kOf n := by unfold sharesR; simp
theorem sharesR_get {n i : Nat} (h : i < kOf n) : (sharesR n)[i]? = some ((share n i : Nat) : Int) := by
 unfold sharesR; rw [List.getElem?_map, List.getElem?_range h]; rfl
theorem kOf_le (n : Nat) : kOf n ≤ n + 1 := by unfold kOf; split <;> omega
theorem take_snoc {α : Type} {l : List α} {i : Nat} {x : α} (h : l[i]? = some x) : l.take (i + 1) = l.take i ++ [x] := by
 rw [List.take_add_one, h]; rfl
theorem build_shares_eq {n : Nat} (hn : n ≤ 100000) : build_shares F (n : Int) = some (sharesR n) := by
 unfold build_shares
 have hE : (if (1 : Int) < (IntKind.i64.wrap ((IntKind.i64.wrap ((IntKind.i64.wrap ((n : Int) + 8)) - 1) : Int).tdiv 8)) then IntKind.i64.wrap ((IntKind.i64.wrap ((IntKind.i64.wrap ((n : Int) + 8)) - 1) : Int).tdiv 8) else 1) = (kOf n : Int) := by
  rw [w64 (n := (n : Int) + 8) (by omega) (by omega), w64 (n := (n : Int) + 8 - 1) (by omega) (by omega), show (n : Int) + 8 - 1 = ((n + 7 : Nat) : Int) by omega]
  have e : (((n + 7 : Nat) : Int)).tdiv 8 = (((n + 7) / 8 : Nat) : Int) := rfl
  rw [e, w64 (by omega) (by omega)]
  unfold kOf
  by_cases h : 8 < n
  · rw [if_pos h, if_pos (by omega)]
  · rw [if_neg h, if_neg (by omega)]; rfl
 rw [hE]
 have hk := kOf_pos n
 have hk1 := kOf_le n
 rw [loop_fold (List.range (kOf n)) (fun acc i => acc ++ [((share n i : Nat) : Int)]) [] (r := sharesR n) (by rw [List.length_range]; omega) rfl ?hs ?he]
 · rfl
 case hs =>
  intro i e hi
  have hi' := hi
  have hlt := (List.getElem?_eq_some_iff.1 hi).1
  rw [List.length_range] at hlt
  rw [List.getElem?_range hlt] at hi
  obtain rfl := Option.some.inj hi
  dsimp only
  rw [foldl_snoc]
  rw [show decide ((i : Int) < (kOf n : Int)) = true from decide_eq_true (by omega), cond_true]
  have ht : toDiv (kOf n : Int) = some (kOf n : Int) := by unfold toDiv; rw [if_neg (by omega)]
  rw [ht, Option.bind_some, Option.bind_some]
  have hb1 : n * (i + 1) ≤ 100000 * 100002 := Nat.mul_le_mul hn (by omega)
  have hb0 : n * i ≤ 100000 * 100002 := Nat.mul_le_mul hn (by omega)
  have e1 : (n : Int) * ((i : Int) + 1) = ((n * (i + 1) : Nat) : Int) := by push_cast; rfl
  have e0 : (n : Int) * (i : Int) = ((n * i : Nat) : Int) := by push_cast; rfl
  have d1 : (((n * (i + 1) : Nat) : Int)).tdiv (kOf n : Int) = ((off n (kOf n) (i + 1) : Nat) : Int) := rfl
  have d0 : (((n * i : Nat) : Int)).tdiv (kOf n : Int) = ((off n (kOf n) i : Nat) : Int) := rfl
  have hm := off_mono (n := n) (k := kOf n) (show i ≤ i + 1 by omega)
  have hl := off_le (n := n) hk (show i + 1 ≤ kOf n by omega)
  have es : ((off n (kOf n) (i + 1) : Nat) : Int) - ((off n (kOf n) i : Nat) : Int) = ((share n i : Nat) : Int) := by unfold share; omega
  have hsh : share n i ≤ n := by unfold share; omega
  rw [w64 (n := (i : Int) + 1) (by omega) (by omega), e1, e0, w64 (n := ((n * (i + 1) : Nat) : Int)) (by omega) (by omega), w64 (n := ((n * i : Nat) : Int)) (by omega) (by omega), d1, d0, w64 (n := ((off n (kOf n) (i + 1) : Nat) : Int)) (by omega) (by omega), w64 (n := ((off n (kOf n) i : Nat) : Int)) (by omega) (by omega), es, w64 (by omega) (by omega)]
  rw [grow_ok (by simp; omega) (by simp; omega)]
  rfl
 case he =>
  dsimp only
  rw [foldl_snoc, List.length_range, decide_eq_false (by omega), cond_false]; rfl
theorem small_chk {n : DNode} (h : chkN n = 0) : Small n := by
 obtain ⟨h1, h2⟩ := small8 h
 rcases chkN_zero.1 h with q | q | q
 · refine ⟨by omega, by omega, ?_, ?_⟩
   · rw [q.2.2.2.1]; simp
   · rw [q.2.2.2.2]; simp
 · refine ⟨by omega, by omega, ?_, ?_⟩
   · rw [q.2.seps]; simp
   · rw [q.2.tids]; simp
 · exact ⟨by omega, by omega, by have := q.2.seps; omega, by have := q.2.tids; omega⟩
def badR (l : List DElem) : Option Int := l.zipIdx.findSome? fun p => leafAt l p.2 p.1
def ofR (l : List DElem) : DTree × Int := if 400 < l.length then (⟨0, []⟩, 2) else match badR l with
 | some e => (⟨0, []⟩, e)
 | none => (buildT l, 0)
theorem badR_none {l : List DElem} : badR l = none ↔ (∀ e ∈ l, chkE e = 0) ∧ l.Pairwise SpO := by
 unfold badR
 rw [find_none]
 constructor
 · intro h
   refine ⟨fun e he => ?_, pairwise_step (R := SpO) (fun a b c h1 h2 => SpO.trans h1 h2) fun j p e hp he => ?_⟩
   · obtain ⟨k, hk⟩ := List.mem_iff_getElem?.1 he
     exact (leafAt_none.1 (h k e hk)).1
   · exact (leafAt_none.1 (h (j + 1) e he)).2 j p rfl hp
 · rintro ⟨h1, h2⟩ k e hk
   exact leafAt_none.2 ⟨h1 e (List.mem_of_getElem? hk), fun j p hj hp => pairwise_at h2 (by omega) hp hk⟩
theorem lows_get {α : Type} {G : List (List α)} {β : Type} {φ : List α × Nat → β} {i : Nat} {g : List α} (h : G[i]? = some g) : (G.zipIdx.map φ)[i]? = some (φ (g, i)) := by
 rw [List.getElem?_map, List.getElem?_zipIdx, h]; simp
theorem rest_next {α : Type} (l : List α) (i : Nat) : (l.drop (off l.length (kOf l.length) i)).drop (share l.length i) = l.drop (off l.length (kOf l.length) (i + 1)) := by
 rw [List.drop_drop]
 congr 1
 have := off_mono (n := l.length) (k := kOf l.length) (show i ≤ i + 1 by omega)
 unfold share; omega
theorem rest_long {α : Type} (l : List α) {i : Nat} (h : i < kOf l.length) : share l.length i ≤ (l.drop (off l.length (kOf l.length) i)).length := by
 have h1 := off_le (n := l.length) (kOf_pos l.length) (show i + 1 ≤ kOf l.length by omega)
 rw [List.length_drop]; unfold share; omega
theorem build_Of_eq (l : List DElem) : build_Of F l = some (ofR l) := by
 unfold build_Of ofR
 by_cases hl : 400 < l.length
 · rw [show decide ((400 : Int) < (l.length : Int)) = true from decide_eq_true (by omega), cond_true, if_pos hl]
 rw [show decide ((400 : Int) < (l.length : Int)) = false from decide_eq_false (by omega), cond_false, if_neg hl]
 rw [loop_find l (fun k e => (leafAt l k e).map fun x => Sum.inr ((⟨0, []⟩ : DTree), x)) (.inl ()) (by omega) rfl (fun k e hk hb => ?_) (by simp)]
 rotate_left
 · have hkl := (List.getElem?_eq_some_iff.1 hk).1
   rw [decide_eq_true (by omega), cond_true, idx_nat', hk, Option.bind_some, elem_Check_eq, Option.bind_some]
   unfold leafAt
   by_cases hc : chkE e = 0
   · rw [bne0_false hc, cond_false, if_neg (show ¬ (chkE e ≠ 0) by simpa using hc)]
     cases k with
     | zero =>
      rw [show decide ((0 : Int) < ((0 : Nat) : Int)) = false from rfl, cond_false, Option.bind_some, cond_false, w64 (by omega) (by omega)]; rfl
     | succ j =>
      obtain ⟨p, hp⟩ : ∃ p, l[j]? = some p := ⟨_, List.getElem?_eq_getElem (by omega)⟩
      have e1 : IntKind.i64.wrap (((j + 1 : Nat) : Int) - 1) = (j : Int) := by rw [w64 (by omega) (by omega)]; omega
      rw [decide_eq_true (show (0 : Int) < ((j + 1 : Nat) : Int) by omega), cond_true, e1, idx_nat', hp]
      simp only [Option.bind_some, elem_Spot_eq, key_CmpSpot_eq, hp]
      by_cases hs : 0 ≤ cmpS (spotE p) (spotE e)
      · rw [decide_eq_true hs, if_pos hs]; rfl
      · rw [decide_eq_false hs, if_neg hs, cond_false, w64 (by omega) (by omega)]; rfl
   · rw [bne0_true hc, cond_true, if_pos (show (chkE e ≠ 0) by simpa using hc)]; rfl
 have hbad : ((l.zipIdx.findSome? fun p => (leafAt l p.2 p.1).map fun x => (Sum.inr ((⟨0, []⟩ : DTree), x) : Unit ⊕ (DTree × Int))).getD (.inl ())) = match badR l with
  | some e => .inr (⟨0, []⟩, e)
  | none => .inl () := by
  have : ∀ q : List (DElem × Nat), (q.findSome? fun p => (leafAt l p.2 p.1).map fun x => (Sum.inr ((⟨0, []⟩ : DTree), x) : Unit ⊕ (DTree × Int))) = (q.findSome? fun p => leafAt l p.2 p.1).map fun x => Sum.inr (⟨0, []⟩, x) := by
   intro q
   induction q with
   | nil => rfl
   | cons a q ih => rw [List.findSome?_cons, List.findSome?_cons]; cases leafAt l a.2 a.1 with
    | none => exact ih
    | some x => rfl
  rw [this]
  unfold badR
  cases (l.zipIdx.findSome? fun p => leafAt l p.2 p.1) <;> rfl
 rw [hbad, Option.bind_some]
 cases hb : badR l with
 | some e => rfl
 | none =>
  obtain ⟨ho, hp⟩ := badR_none.1 hb
  dsimp only
  have hk := kOf_pos l.length
  have hk50 : kOf l.length ≤ 50 := kOf_least (by omega) (by decide)
  have hglen := groups_length l
  rw [build_shares_eq (by omega), Option.bind_some]
  rw [loop_run (fun i => (((nodes0 l).take i, (lev0 l).take i, l.drop (off l.length (kOf l.length) i), (i : Int)) : List DNode × List Dbuild_low × List DElem × Int)) (kOf l.length) (r := (nodes0 l, lev0 l)) (by rw [off_zero]; rfl) (by omega) ?hs ?he]
  case he =>
   dsimp only
   rw [sharesR_length, decide_eq_false (by omega), cond_false, List.take_of_length_le (by unfold nodes0; rw [List.length_map]; omega), List.take_of_length_le (by unfold lev0; rw [List.length_map, List.length_zipIdx]; omega)]
  case hs =>
   intro i hi
   dsimp only
   have hg := groups_get hi
   have hn0 : (nodes0 l)[i]? = some (leafN (piece l (kOf l.length) i)) := by unfold nodes0; rw [List.getElem?_map, hg]; rfl
   have hl0 : (lev0 l)[i]? = some ⟨(i : Int), lowS (piece l (kOf l.length) i)⟩ := lows_get hg
   have hrl := rest_long l hi
   have hrn := rest_next l i
   have hpc : piece l (kOf l.length) i = (l.drop (off l.length (kOf l.length) i)).take (share l.length i) := rfl
   have hpl : (piece l (kOf l.length) i).length ≤ 8 := (groups_small (List.mem_of_getElem? hg)).1
   generalize hrest : l.drop (off l.length (kOf l.length) i) = rest at *
   have htl : ((nodes0 l).take i).length = i := by rw [List.length_take]; unfold nodes0; rw [List.length_map]; omega
   have htl2 : ((lev0 l).take i).length = i := by rw [List.length_take]; unfold lev0; rw [List.length_map, List.length_zipIdx]; omega
   rw [sharesR_length, decide_eq_true (by omega), cond_true, idx_nat', sharesR_get hi, Option.bind_some]
   have hspot : (bif decide ((0 : Int) < ((share l.length i : Nat) : Int)) then (idx rest 0).bind fun e4 => (elem_Spot e4).bind fun r8 => some (r8.key.pfs, r8.key.obj, r8.key.off, r8.made) else some (0, 0, 0, 0) : Option (Int × Int × Int × Int)) =
    some ((lowS (piece l (kOf l.length) i)).key.pfs, (lowS (piece l (kOf l.length) i)).key.obj, (lowS (piece l (kOf l.length) i)).key.off, (lowS (piece l (kOf l.length) i)).made) := by
    by_cases h0 : 0 < share l.length i
    · rw [decide_eq_true (show (0 : Int) < ((share l.length i : Nat) : Int) by omega), cond_true]
      cases rest with
      | nil => simp at hrl; omega
      | cons e r =>
       obtain ⟨q, hq⟩ : ∃ q, share l.length i = q + 1 := ⟨share l.length i - 1, by omega⟩
       rw [hpc, hq, show idx (e :: r) 0 = some e from rfl, Option.bind_some, elem_Spot_eq]; rfl
    · have h00 : share l.length i = 0 := by omega
      rw [h00, List.take_zero] at hpc
      rw [hpc, h00]; rfl
   rw [hspot, Option.bind_some]
   dsimp only
   rw [lslice_to hrl, Option.bind_some, ← hpc, grow_ok (by simp; omega) (by simp; omega), Option.bind_some, grow_ok (by simp; omega) (by simp; omega), Option.bind_some, grow_ok (by simp; omega) (by simp; omega), Option.bind_some, lslice_from hrl, Option.bind_some, hrn, w64 (by omega) (by omega), htl, take_snoc hn0, take_snoc hl0]
   rfl
  rw [Option.bind_some]
  dsimp only
  have L0 := Lev.zero (by omega) ho hp
  have hlv0 : (lev0 l).length ≤ 400 := by have := L0.size; omega
  have hout : ∀ {K : List DNode × List Dbuild_low → Option (DTree × Int)} {f : List DNode × List Dbuild_low → Option ((List DNode × List Dbuild_low) ⊕ (List DNode × List Dbuild_low))},
   (∀ ns lv h, Lev ns lv l h → f (ns, lv) = some (if 1 < lv.length then .inl (stepB (ns, lv)) else .inr (ns, lv))) → (iter f F (nodes0 l, lev0 l)).bind K = K (up 400 (nodes0 l, lev0 l)) := by
   intro K f hf
   obtain ⟨q, hq⟩ : ∃ q, K (up 400 (nodes0 l, lev0 l)) = some q ∨ True := ⟨(⟨0, []⟩, 0), .inr trivial⟩
   have hit : iter f F (nodes0 l, lev0 l) = some (up 400 (nodes0 l, lev0 l)) := by
    have := loop_rec (F := F) (f := f) (K := some) (fun m s q => q = up m s ∧ s.2.length ≤ m ∧ ∃ h, Lev s.1 s.2 l h) ?_ (m := 400) (s := (nodes0 l, lev0 l)) (q := up 400 (nodes0 l, lev0 l)) (by omega) ⟨rfl, hlv0, 0, L0⟩
    · simpa using this
    · rintro m ⟨ns, lv⟩ q ⟨rfl, hm, h, L⟩
      dsimp only at hm L
      have hpos : 0 < lv.length := by rw [L.count]; exact cN_pos _ _
      by_cases h1 : 1 < lv.length
      · right
        obtain ⟨m, rfl⟩ : ∃ k, m = k + 1 := ⟨m - 1, by omega⟩
        have L' := L.next hp ho h1
        have hc : (stepB (ns, lv)).2.length = kOf lv.length := by unfold stepB; dsimp only; rw [List.length_map, List.length_zipIdx, groups_length]
        have hh := kOf_half h1
        refine ⟨m, stepB (ns, lv), by omega, by rw [hf ns lv h L, if_pos h1], ?_, Nat.le_trans (Nat.le_of_eq hc) (by omega), h + 1, L'⟩
        rw [up, if_pos h1]
      · left
        refine ⟨(ns, lv), by rw [hf ns lv h L, if_neg h1], ?_⟩
        cases m with
        | zero => rfl
        | succ m => rw [up, if_neg h1]
   rw [hit, Option.bind_some]
  rw [hout ?hstep]
  case hstep =>
   intro ns lv h L
   dsimp only
   have hsize := L.size
   by_cases h1 : 1 < lv.length
   rotate_left
   · rw [if_neg h1, show decide ((1 : Int) < (lv.length : Int)) = false from decide_eq_false (by omega), cond_false]
   rw [if_pos h1, show decide ((1 : Int) < (lv.length : Int)) = true from decide_eq_true (by omega), cond_true]
   rw [build_shares_eq (by omega), Option.bind_some]
   have hkl := kOf_half h1
   have hkp := kOf_pos lv.length
   have hgl := groups_length lv
   have hgm : ((groups lv).map (innerN ns)).length = kOf lv.length := by rw [List.length_map]; exact hgl
   have hlm : (stepB (ns, lv)).2.length = kOf lv.length := by unfold stepB; dsimp only; rw [List.length_map, List.length_zipIdx, groups_length]
   rw [loop_run (fun i => (((stepB (ns, lv)).2.take i, ns ++ ((groups lv).map (innerN ns)).take i, lv.drop (off lv.length (kOf lv.length) i), (i : Int)) : List Dbuild_low × List DNode × List Dbuild_low × Int)) (kOf lv.length) (r := ((stepB (ns, lv)).2, (stepB (ns, lv)).1)) (by rw [off_zero]; simp) (by omega) ?hs2 ?he2]
   · rfl
   case he2 =>
    dsimp only
    rw [sharesR_length, decide_eq_false (by omega), cond_false, List.take_of_length_le (by omega), List.take_of_length_le (by omega)]; rfl
   case hs2 =>
    intro i hi
    dsimp only
    have hg := groups_get hi
    have hn0 : ((groups lv).map (innerN ns))[i]? = some (innerN ns (piece lv (kOf lv.length) i)) := by rw [List.getElem?_map, hg]; rfl
    have hl0 : (stepB (ns, lv)).2[i]? = some ⟨((ns.length + i : Nat) : Int), headS (piece lv (kOf lv.length) i)⟩ := lows_get hg
    have hrl := rest_long lv hi
    have hrn := rest_next lv i
    have hpc : piece lv (kOf lv.length) i = (lv.drop (off lv.length (kOf lv.length) i)).take (share lv.length i) := rfl
    obtain ⟨hp8, _, _, hp1⟩ := groups_small (List.mem_of_getElem? hg)
    have hp1 := hp1 h1
    have hsub := (piece_sub (List.mem_of_getElem? hg)).subset
    generalize piece lv (kOf lv.length) i = g at *
    generalize lv.drop (off lv.length (kOf lv.length) i) = rest at *
    have htl : (((groups lv).map (innerN ns)).take i).length = i := by rw [List.length_take]; omega
    have htl2 : ((stepB (ns, lv)).2.take i).length = i := by rw [List.length_take]; omega
    rw [sharesR_length, decide_eq_true (by omega), cond_true, idx_nat', sharesR_get hi, Option.bind_some, lslice_to hrl, Option.bind_some, ← hpc]
    rw [loop_run (s := (([] : List DSpot), ([] : List Int), ([] : List Int), (0 : Int))) (fun j => (((g.take j).tail.map (·.s), (g.take j).map (fun k => greatR (nd ns k.i)), (g.take j).map (·.i), (j : Int)) : List DSpot × List Int × List Int × Int)) g.length (r := (g.tail.map (·.s), g.map (fun k => greatR (nd ns k.i)), g.map (·.i))) rfl (by omega) ?hs3 ?he3]
    case he3 =>
     dsimp only
     rw [decide_eq_false (by omega), cond_false, List.take_length]
    case hs3 =>
     intro j hj
     dsimp only
     have hgj : g[j]? = some g[j] := List.getElem?_eq_getElem hj
     have hin := hsub (List.mem_of_getElem? hgj)
     have hrange := (L.fit _ hin).range
     generalize g[j] = e at *
     have hnd : idx (ns ++ ((groups lv).map (innerN ns)).take i) e.i = some (nd ns e.i) := by
      rw [nd_get hrange.1 (by rw [List.length_append]; have := hrange.2; omega), nd_old ns _ hrange]
     have htk : (g.take j).length = j := by rw [List.length_take]; omega
     rw [decide_eq_true (by omega), cond_true, idx_nat', hgj, Option.bind_some, grow_ok (by rw [List.length_map, htk, List.length_singleton]; omega) (by rw [List.length_map, htk, List.length_singleton]; omega), Option.bind_some, hnd, Option.bind_some, node_Greatest_eq _ (small_chk (L.chk _ (nd_mem hrange.1 hrange.2))), Option.bind_some, grow_ok (by rw [List.length_map, htk, List.length_singleton]; omega) (by rw [List.length_map, htk, List.length_singleton]; omega), Option.bind_some, w64 (by omega) (by omega), take_snoc hgj, List.map_append, List.map_append]
     cases j with
     | zero => rfl
     | succ j =>
      have hne : g.take (j + 1) ≠ [] := fun h => by rw [h] at htk; simp at htk
      rw [decide_eq_true (show (0 : Int) < ((j + 1 : Nat) : Int) by omega), cond_true, grow_ok (by rw [List.length_map, List.length_tail, htk, List.length_singleton]; omega) (by rw [List.length_map, List.length_tail, htk, List.length_singleton]; omega), List.tail_append_of_ne_nil hne, List.map_append]
      rfl
    rw [Option.bind_some]
    dsimp only
    obtain ⟨y, g', rfl⟩ : ∃ y g', g = y :: g' := by
     cases g with
     | nil => simp at hp1
     | cons y g' => exact ⟨y, g', rfl⟩
    have hy : idx rest 0 = some y := by
     cases rest with
     | nil => simp at hpc
     | cons z r =>
      cases hsh : share lv.length i with
      | zero => rw [hsh] at hpc; simp at hpc
      | succ q => rw [hsh, List.take_succ_cons] at hpc; rw [(List.cons.inj hpc).1]; rfl
    rw [hy, Option.bind_some, grow_ok (by rw [htl2, List.length_singleton]; omega) (by rw [htl2, List.length_singleton]; omega), Option.bind_some, grow_ok (by rw [List.length_append, htl, List.length_singleton]; omega) (by rw [List.length_append, htl, List.length_singleton]; omega), Option.bind_some, lslice_from hrl, Option.bind_some, hrn, w64 (by omega) (by omega), List.length_append, htl, take_snoc hn0, take_snoc hl0, List.append_assoc]
    rfl
  obtain ⟨h, L, h1⟩ := Lev.up hp ho 400 L0 hlv0
  unfold buildT
  dsimp only
  generalize up 400 (nodes0 l, lev0 l) = x at L h1
  obtain ⟨ns, lv⟩ := x
  dsimp only at L h1 ⊢
  obtain ⟨y, rfl⟩ := List.length_eq_one_iff.1 h1
  rfl
end Go.Proofs.Ytcmkdoahkncakaa
namespace Go.Proofs.Ytcmkdoahkncakaa
set_option linter.unusedVariables false
set_option linter.unusedSimpArgs false
def setE (e x : DElem) : DElem := if spotE x = spotE e then e else x
structure ChgPost (e : DElem) (N N' : NL) (h : Nat) (i : Int) (m : Nat) (s : Span) : Prop where
 len : N'.length = N.length
 out : ∀ j, j ∉ ids (fN N) h i → N'[j]? = N[j]?
 kinds : ∀ j, kd N' j = kd N j
 chk : ChkL N'
 sub : SubT (fN N') h i m s
 ids : ids (fN N') h i = ids (fN N) h i
 elems : elemsAt (fN N') h i = (elemsAt (fN N) h i).map (setE e)
variable {F : Nat} [Big F]
theorem leaf_chk {n : DNode} (h1 : n.kind = 1) (h2 : Leaf n) : chkN n = 0 := chkN_zero.2 (.inr (.inl ⟨h1, h2⟩))
theorem inner_chk {n : DNode} (h1 : n.kind = 2) (h2 : Inner n) : chkN n = 0 := chkN_zero.2 (.inr (.inr ⟨h1, h2⟩))
theorem nd_chk {N : NL} (h : ChkL N) {i : Int} (hi : 0 ≤ i ∧ i < ((fN N).length : Int)) : chkN (nd (fN N) i) = 0 := h _ (nd_mem hi.1 hi.2)
theorem great_node {N : NL} (h : ChkL N) {i : Int} (hi : 0 ≤ i ∧ i < ((fN N).length : Int)) : node_Greatest F (nd (fN N) i) = some (greatR (nd (fN N) i)) := node_Greatest_eq _ (small_chk (nd_chk h hi))
end Go.Proofs.Ytcmkdoahkncakaa
namespace Go.Proofs.Ytcmkdoahkncakaa
set_option linter.unusedVariables false
set_option linter.unusedSimpArgs false
def usedB (x : Int ⊕ DNode) : Bool := kindN x != 0
def used (N : NL) : Nat := N.countP usedB
theorem usedB_iff {x : Int ⊕ DNode} : usedB x = true ↔ kindN x ≠ 0 := by unfold usedB; simp
theorem used_set {N : NL} {i : Nat} {x : Int ⊕ DNode} (y : Int ⊕ DNode) (h : N[i]? = some x) : used (N.set i y) + (if usedB x then 1 else 0) = used N + (if usedB y then 1 else 0) := by
 unfold used
 induction N generalizing i with
 | nil => simp at h
 | cons a N ih =>
  cases i with
  | zero =>
   obtain rfl : a = x := by simpa using h
   rw [List.set_cons_zero, List.countP_cons, List.countP_cons]; omega
  | succ i =>
   have := ih (i := i) (by simpa using h)
   rw [List.set_cons_succ, List.countP_cons, List.countP_cons]; omega
theorem used_same {N : NL} {i : Nat} {x y : Int ⊕ DNode} (h : N[i]? = some x) (hx : kindN x ≠ 0) (hy : kindN y ≠ 0) : used (N.set i y) = used N := by
 have := used_set y h
 rw [if_pos (usedB_iff.2 hx), if_pos (usedB_iff.2 hy)] at this
 omega
theorem used_out (N : NL) (i : Int) : used (outAt N i) = used N := by
 unfold outAt
 rcases Nat.lt_or_ge i.toNat N.length with h | h
 · have hg := List.getElem?_eq_getElem h
   have := used_set (.inl (((N[i.toNat]?).map kindN).getD 0)) hg
   have e : usedB (.inl (((N[i.toNat]?).map kindN).getD 0)) = usedB N[i.toNat] := by rw [hg]; rfl
   rw [e] at this
   omega
 · rw [List.set_eq_of_length_le h]
theorem kd_some {N : NL} {j : Nat} {x : Int ⊕ DNode} (h : N[j]? = some x) : kd N j = some (kindN x) := by unfold kd; rw [h]; rfl
theorem kd_at {N : NL} {j : Nat} {k : Int} (h : kd N j = some k) : ∃ x, N[j]? = some x ∧ kindN x = k := Option.map_eq_some_iff.1 h
theorem used_all {N : NL} (h : ∀ (j : Nat) (x : Int ⊕ DNode), N[j]? = some x → kindN x ≠ 0) : used N = N.length :=
 List.countP_eq_length.2 fun x hx => by
  obtain ⟨j, hj⟩ := List.mem_iff_getElem?.1 hx
  exact usedB_iff.2 (h j x hj)
structure Fr2 (N N' : NL) (I K : List Nat) (c : Nat) : Prop where
 len : N.length ≤ N'.length
 cap : N'.length ≤ max N.length (used N')
 use : used N' ≤ used N + c
 out : ∀ (j : Nat) (x : Int ⊕ DNode), j ∉ I → N[j]? = some x → kindN x ≠ 0 → N'[j]? = some x
 kept : ∀ (j : Nat) (x : Int ⊕ DNode), N[j]? = some x → kindN x ≠ 0 → ∃ y, N'[j]? = some y ∧ kindN y ≠ 0
 new : ∀ j ∈ K, j ∈ I ∨ ∀ x : Int ⊕ DNode, N[j]? = some x → kindN x = 0
 all : ∀ (j : Nat) (x : Int ⊕ DNode), N'[j]? = some x → kindN x ≠ 0 → j ∈ K ∨ (j ∉ I ∧ ∃ y, N[j]? = some y ∧ kindN y ≠ 0)
 nodup : K.Nodup
 chk : ChkL N'
 zero : ∀ j : Nat, N'[j]? = some (.inl 0) → N[j]? = some (.inl 0)
theorem Fr2.perm {N N' : NL} {I K K' : List Nat} {c : Nat} (h : Fr2 N N' I K c) (p : K.Perm K') : Fr2 N N' I K' c :=
 ⟨h.len, h.cap, h.use, h.out, h.kept, fun j hj => h.new j (p.mem_iff.2 hj), fun j x hx hk => (h.all j x hx hk).imp (fun q => p.mem_iff.1 q) id, p.nodup_iff.1 h.nodup, h.chk, h.zero⟩
theorem Fr2.more {N N' : NL} {I K : List Nat} {c c' : Nat} (h : Fr2 N N' I K c) (hc : c ≤ c') : Fr2 N N' I K c' :=
 ⟨h.len, h.cap, Nat.le_trans h.use (by omega), h.out, h.kept, h.new, h.all, h.nodup, h.chk, h.zero⟩
theorem SubT.used {N : NL} : ∀ {h : Nat} {i : Int} {m : Nat} {s : Span}, SubT (fN N) h i m s → ∀ j ∈ ids (fN N) h i, ∃ n, N[j]? = some (.inr n) ∧ n.kind ≠ 0 := by
 intro h
 induction h with
 | zero =>
  intro i m s c j hj
  obtain rfl : j = i.toNat := by simpa [ids] using hj
  exact ⟨_, c.node.2, c.kind⟩
 | succ h ih =>
  intro i m s c j hj
  rw [ids] at hj
  rcases List.mem_cons.1 hj with rfl | hj
  · exact ⟨_, c.node.2, c.kind⟩
  · obtain ⟨k, hk, hj⟩ := List.mem_flatMap.1 hj
    obtain ⟨t, s', x, _⟩ := c.2.2.2.mem k hk
    exact ih x.1 j hj
theorem Fr2.start {N : NL} (hc : ChkL N) {i : Int} {n : DNode} (hi : N[i.toNat]? = some (.inr n)) (hk : n.kind ≠ 0) : Fr2 N (outAt N i) [i.toNat] [i.toNat] 0 := by
 refine ⟨by rw [outAt_length]; exact Nat.le_refl _, by rw [outAt_length]; exact Nat.le_max_left _ _, by rw [used_out]; exact Nat.le_refl _, fun j x hj hx _ => by rw [outAt_get N (by simpa using hj)]; exact hx, fun j x hx hk => ?_, fun j hj => .inl hj, fun j x hx hk => ?_, by simp, hc.out i, fun j hj => ?_⟩
 · have := outAt_kd N i j
   rw [kd_some hx] at this
   obtain ⟨y, hy, hyk⟩ := kd_at this
   exact ⟨y, hy, by rw [hyk]; exact hk⟩
 · by_cases hji : j = i.toNat
   · exact .inl (by simp [hji])
   · rw [outAt_get N hji] at hx
     exact .inr ⟨by simpa using hji, x, hx, hk⟩
 · by_cases hji : j = i.toNat
   · subst hji
     have := outAt_kd N i i.toNat
     rw [kd_some hj, kd_some hi] at this
     exact absurd (Option.some.inj this).symm hk
   · rw [outAt_get N hji] at hj; exact hj
theorem Fr2.up {N N2 : NL} {i : Nat} {I1 I2 I3 K : List Nat} {c : Nat} {i' : Int} (hi : i'.toNat = i) (f : Fr2 (outAt N i') N2 I2 K c) (hn : (i :: (I1 ++ (I2 ++ I3))).Nodup) (hu : ∀ j ∈ i :: (I1 ++ (I2 ++ I3)), ∃ n : DNode, N[j]? = some (.inr n) ∧ n.kind ≠ 0) :
 Fr2 N N2 (i :: (I1 ++ (I2 ++ I3))) (i :: (I1 ++ (K ++ I3))) c := by
 have hk : ∀ (j : Nat) (x : Int ⊕ DNode), N[j]? = some x → kindN x ≠ 0 → ∃ y, (outAt N i')[j]? = some y ∧ kindN y ≠ 0 := fun j x hx hxk => by
  have := outAt_kd N i' j
  rw [kd_some hx] at this
  obtain ⟨y, hy, hyk⟩ := kd_at this
  exact ⟨y, hy, by rw [hyk]; exact hxk⟩
 have hk' : ∀ (j : Nat) (x : Int ⊕ DNode), (outAt N i')[j]? = some x → kindN x ≠ 0 → ∃ y, N[j]? = some y ∧ kindN y ≠ 0 := fun j x hx hxk => by
  have := outAt_kd N i' j
  rw [kd_some hx] at this
  obtain ⟨y, hy, hyk⟩ := kd_at this.symm
  exact ⟨y, hy, by rw [hyk]; exact hxk⟩
 have hK : ∀ j ∈ K, j ∈ I2 ∨ ∀ x : Int ⊕ DNode, N[j]? = some x → kindN x = 0 := fun j hj => (f.new j hj).imp id fun h x hx => by
  by_cases h0 : kindN x = 0
  · exact h0
  · obtain ⟨y, hy, hyk⟩ := hk j x hx h0
    exact absurd (h y hy) hyk
 obtain ⟨n1, n2⟩ := List.nodup_cons.1 hn
 obtain ⟨n3, n4, n5⟩ := List.nodup_append.1 n2
 obtain ⟨n6, n7, n8⟩ := List.nodup_append.1 n4
 have hKu : ∀ j ∈ K, j ∉ I2 → ∀ n : DNode, N[j]? = some (.inr n) → n.kind = 0 := fun j hj hj2 n hx => by
  rcases hK j hj with h | h
  · exact absurd h hj2
  · exact h _ hx
 have hne : ∀ j ∈ K, j ∈ i :: (I1 ++ (I2 ++ I3)) → j ∈ I2 := fun j hj hm => by
  by_cases h2 : j ∈ I2
  · exact h2
  · obtain ⟨n, hx, hnk⟩ := hu j hm
    exact absurd (hKu j hj h2 n hx) hnk
 refine ⟨by have := f.len; rwa [outAt_length] at this, by have := f.cap; rwa [outAt_length] at this, by have := f.use; rwa [used_out] at this, fun j x hj hx hxk => ?_, fun j x hx hxk => ?_, fun j hj => ?_, fun j x hx hxk => ?_, ?_, f.chk, fun j hj => ?_⟩
 · simp only [List.mem_cons, List.mem_append, not_or] at hj
   exact f.out j x hj.2.2.1 (by rw [outAt_get N (by omega)]; exact hx) hxk
 · obtain ⟨y, hy, hyk⟩ := hk j x hx hxk
   exact f.kept j y hy hyk
 · simp only [List.mem_cons, List.mem_append] at hj ⊢
   rcases hj with h | h | h | h
   · exact .inl (.inl h)
   · exact .inl (.inr (.inl h))
   · exact (hK j h).imp (fun h => .inr (.inr (.inl h))) id
   · exact .inl (.inr (.inr (.inr h)))
 · simp only [List.mem_cons, List.mem_append, not_or]
   rcases f.all j x hx hxk with h | ⟨h, y, hy, hyk⟩
   · exact .inl (.inr (.inr (.inl h)))
   · by_cases h0 : j = i
     · exact .inl (.inl h0)
     by_cases h1 : j ∈ I1
     · exact .inl (.inr (.inl h1))
     by_cases h3 : j ∈ I3
     · exact .inl (.inr (.inr (.inr h3)))
     · exact .inr ⟨⟨h0, h1, h, h3⟩, hk' j y hy hyk⟩
 · refine List.nodup_cons.2 ⟨fun hm => ?_, List.nodup_append.2 ⟨n3, List.nodup_append.2 ⟨f.nodup, n7, fun a ha b hb e => ?_⟩, fun a ha b hb e => ?_⟩⟩
   · simp only [List.mem_append, not_or] at hm n1
     rcases hm with h | h | h
     · exact n1.1 h
     · exact n1.2.1 (hne i h List.mem_cons_self)
     · exact n1.2.2 h
   · subst e
     exact n8 a (hne a ha (by simp [hb])) a hb rfl
   · subst e
     rcases List.mem_append.1 hb with h | h
     · exact n5 a ha a (List.mem_append_left _ (hne a h (by simp [ha]))) rfl
     · exact n5 a ha a (List.mem_append_right _ h) rfl
 · have h0 := f.zero j hj
   by_cases hji : j = i'.toNat
   · subst hji
     obtain ⟨n, hx, hnk⟩ := hu i List.mem_cons_self
     rw [← hi] at hx
     have := outAt_kd N i' i'.toNat
     rw [kd_some h0, kd_some hx] at this
     exact absurd (Option.some.inj this).symm hnk
   · rw [outAt_get N hji] at h0; exact h0
theorem Fr2.put {N N2 : NL} {I K : List Nat} {c : Nat} (f : Fr2 N N2 I K c) {i : Int} (hI : i.toNat ∈ I) (hK : i.toNat ∈ K) {x : Int ⊕ DNode} (hx : N2[i.toNat]? = some x) (hxk : kindN x ≠ 0) {n : DNode} (hn : n.kind ≠ 0) (hc : chkN n = 0) : Fr2 N (putAt N2 i n) I K c := by
 have hlt := (List.getElem?_eq_some_iff.1 hx).1
 have hu : used (putAt N2 i n) = used N2 := used_same hx hxk hn
 refine ⟨by rw [putAt_length]; exact f.len, by rw [putAt_length, hu]; exact f.cap, by rw [hu]; exact f.use, fun j y hj hy hyk => ?_, fun j y hy hyk => ?_, f.new, fun j y hy hyk => ?_, f.nodup, f.chk.put hc, fun j hj => ?_⟩
 · rw [putAt_get N2 (show j ≠ i.toNat from fun e => hj (by rw [e]; exact hI))]; exact f.out j y hj hy hyk
 · by_cases hji : j = i.toNat
   · subst hji; exact ⟨_, putAt_self N2 hlt, hn⟩
   · rw [putAt_get N2 hji]; exact f.kept j y hy hyk
 · by_cases hji : j = i.toNat
   · subst hji; exact .inl hK
   · rw [putAt_get N2 hji] at hy; exact f.all j y hy hyk
 · by_cases hji : j = i.toNat
   · subst hji; rw [putAt_self N2 hlt] at hj; cases hj
   · rw [putAt_get N2 hji] at hj; exact f.zero j hj
structure TakeP (N : NL) (n : DNode) (N' : NL) (j : Nat) : Prop where
 at_ : N'[j]? = some (.inr n)
 same : ∀ q, q ≠ j → N'[q]? = N[q]?
 free : ∀ x : Int ⊕ DNode, N[j]? = some x → kindN x = 0
 len : N'.length = N.length ∨ N'.length = N.length + 1 ∧ j = N.length ∧ ∀ (q : Nat) (x : Int ⊕ DNode), N[q]? = some x → kindN x ≠ 0
 use : kindN (.inr n) ≠ 0 → used N' = used N + 1
theorem Fr2.take {N N2 N' : NL} {I K : List Nat} {c : Nat} (f : Fr2 N N2 I K c) {n : DNode} {j : Nat} (t : TakeP N2 n N' j) (hn : n.kind ≠ 0) (hc : chkN n = 0) (hK : ∀ q ∈ K, ∃ x, N2[q]? = some x ∧ kindN x ≠ 0) : Fr2 N N' I (j :: K) (c + 1) := by
 have hu := t.use hn
 have hjN : ∀ x : Int ⊕ DNode, N[j]? = some x → kindN x = 0 := fun x hx => by
  by_cases h0 : kindN x = 0
  · exact h0
  · obtain ⟨y, hy, hyk⟩ := f.kept j x hx h0
    exact absurd (t.free y hy) hyk
 have hlen : N2.length ≤ N'.length := by rcases t.len with h | ⟨h, _⟩ <;> omega
 refine ⟨Nat.le_trans f.len hlen, ?_, by rw [hu]; have := f.use; omega, fun q x hq hx hxk => ?_, fun q x hx hxk => ?_, fun q hq => ?_, fun q x hx hxk => ?_, List.nodup_cons.2 ⟨fun hj => ?_, f.nodup⟩, fun m hm => ?_, fun q hq => ?_⟩
 · rcases t.len with h | ⟨h, _, ha⟩
   · rw [h, hu]; have := f.cap; omega
   · have := used_all ha
     rw [hu, h, this]; omega
 · have h1 := f.out q x hq hx hxk
   by_cases hqj : q = j
   · subst hqj; exact absurd (hjN x hx) hxk
   · rw [t.same q hqj]; exact h1
 · obtain ⟨y, hy, hyk⟩ := f.kept q x hx hxk
   by_cases hqj : q = j
   · subst hqj; exact ⟨_, t.at_, hn⟩
   · exact ⟨y, by rw [t.same q hqj]; exact hy, hyk⟩
 · rcases List.mem_cons.1 hq with rfl | hq
   · exact .inr hjN
   · exact f.new q hq
 · by_cases hqj : q = j
   · subst hqj; exact .inl List.mem_cons_self
   · rw [t.same q hqj] at hx
     exact (f.all q x hx hxk).imp (List.mem_cons_of_mem _) id
 · obtain ⟨x, hx, hxk⟩ := hK j hj
   exact hxk (t.free x hx)
 · obtain ⟨x, hx, rfl⟩ := List.mem_map.1 hm
   obtain ⟨q, hq⟩ := List.mem_iff_getElem?.1 hx
   by_cases hqj : q = j
   · subst hqj
     rw [t.at_] at hq
     obtain rfl := Option.some.inj hq
     exact hc
   · rw [t.same q hqj] at hq
     exact f.chk _ (List.mem_map.2 ⟨x, List.mem_of_getElem? hq, rfl⟩)
 · by_cases hqj : q = j
   · subst hqj; rw [t.at_] at hq; cases hq
   · rw [t.same q hqj] at hq; exact f.zero q hq
end Go.Proofs.Ytcmkdoahkncakaa
namespace Go.Proofs.Ytcmkdoahkncakaa
set_option linter.unusedVariables false
set_option linter.unusedSimpArgs false
def takeX (F : Nat) (N : NL) (n : DNode) : Option ((List (Int ⊕ DNode)) × Int) :=
 (iter (σ := Int) (ρ := (Unit) ⊕ ((List (Int ⊕ DNode)) × Int)) (fun x16 =>
  bif decide (x16 < (N.length : Int)) then
   (kindAt N x16).bind fun kd4 =>
   bif (kd4 == 0) then
    (hasAt N x16).bind fun u15 =>
    some (.inr (.inr ((putAt N x16 n), x16)))
   else
    some (.inl (IntKind.i64.wrap (x16 + 1)))
   else
    some (.inr (.inl ()))) F 0).bind fun z => match z with
  | .inl _ =>
   (roomN 104 (N.length + 1)).bind fun u16 =>
   some ((N ++ [(Sum.inr n : Int ⊕ DNode)]), IntKind.i64.wrap (((N ++ [(Sum.inr n : Int ⊕ DNode)]).length : Int) - 1))
  | .inr q => some q
def posX (F : Nat) (l : List DElem) (e : DElem) : Option Int :=
 iter (σ := Int) (ρ := Int) (fun x15 =>
  (
   bif decide (x15 < (l.length : Int)) then
    (idx l x15).bind fun e28 =>
    (elem_Spot e28).bind fun r68 =>
    (elem_Spot e).bind fun r69 =>
    (key_CmpSpot r68 r69).bind fun r70 =>
    some (decide (r70 < 0))
    else
     some false : Option (Bool)).bind fun z131 =>
   bif z131 then
    some (.inl (IntKind.i64.wrap (x15 + 1)))
   else
    some (.inr x15)) F 0
abbrev InsT := (List (Int ⊕ DNode)) × Int × Int × Int × Int × Int × Bool
def insM (F : Nat) (e : DElem) (rf4 : NL × Int → Option InsT) (x13 : NL) (x14 : Int) (n31 : DNode) : Option ((List DElem) × (List Int) × (List DSpot) × (List Int) × (List (Int ⊕ DNode))) :=
 bif (n31.kind == 1) then
  (posX F n31.elems e).bind fun z130 =>
  (inss 56 n31.elems z130 e).bind fun _ =>
  some ((insAt n31.elems z130.toNat e), n31.kids, n31.seps, n31.tids, (outAt x13 x14))
  else
   (elem_Spot e).bind fun r71 =>
   (node_Way F n31 r71).bind fun r72 =>
   (idx n31.kids r72).bind fun e29 =>
   (rf4 ((outAt x13 x14), e29)).bind fun z => match z with
    | (z132, z133, z134, z135, z136, z137, z138) =>
     (idx n31.kids r72).bind fun e30 =>
     (nodeAt z132 e30).bind fun n32 =>
     (node_Greatest F n32).bind fun r73 =>
     (idx n31.tids r72).bind fun e31 =>
     bif z138 then
      (inss 8 n31.kids (IntKind.i64.wrap (r72 + 1)) z137).bind fun _ =>
      (inss 32 n31.seps r72 (DSpot.mk (DKey.mk z133 z134 z135) z136)).bind fun _ =>
      (nodeAt z132 z137).bind fun n33 =>
      (node_Greatest F n33).bind fun r74 =>
      (inss 8 (n31.tids.set r72.toNat r73) (IntKind.i64.wrap (r72 + 1)) r74).bind fun _ =>
      some (n31.elems, (insAt n31.kids (IntKind.i64.wrap (r72 + 1)).toNat z137), (insAt n31.seps r72.toNat (DSpot.mk (DKey.mk z133 z134 z135) z136)), (insAt (n31.tids.set r72.toNat r73) (IntKind.i64.wrap (r72 + 1)).toNat r74), z132)
     else
      some (n31.elems, n31.kids, n31.seps, (n31.tids.set r72.toNat r73), z132)
def halfX (k : Int) (z125 : List DElem) (z126 : List Int) (z127 : List DSpot) (z128 : List Int) : Option ((List Int) × (List DSpot) × (List Int) × (List DElem) × (List DElem) × (List Int) × (List DSpot) × (List Int) × Int × Int × Int × Int × Int) :=
 bif (k == 1) then
  (lslice z125 4 (z125.length : Int)).bind fun s25 =>
  (grow 56 ([] : List DElem) s25).bind fun _ =>
  (lslice z125 0 4).bind fun s26 =>
  (idx s25 0).bind fun e33 =>
  (elem_Spot e33).bind fun r76 =>
  some ([], [], [], s25, s26, z126, z127, z128, r76.key.pfs, r76.key.obj, r76.key.off, r76.made, 1)
  else
   (lslice z126 4 (z126.length : Int)).bind fun s27 =>
   (lslice z127 4 (z127.length : Int)).bind fun s28 =>
   (lslice z128 4 (z128.length : Int)).bind fun s29 =>
   (grow 8 ([] : List Int) s27).bind fun y37 =>
   (grow 32 ([] : List DSpot) s28).bind fun y38 =>
   (grow 8 ([] : List Int) s29).bind fun y39 =>
   (idx z127 3).bind fun e34 =>
   (lslice z126 0 4).bind fun s30 =>
   (lslice z127 0 3).bind fun s31 =>
   (lslice z128 0 4).bind fun s32 =>
   some (s29, s28, s27, [], z125, s30, s31, s32, e34.key.pfs, e34.key.obj, e34.key.off, e34.made, 2)
def insB (F : Nat) (e : DElem) (rf4 : NL × Int → Option InsT) (x : NL × Int) : Option InsT :=
 match x with
  | (x13, x14) =>
   (nodeAt x13 x14).bind fun n31 =>
    (insM F e rf4 x13 x14 n31).bind fun z => match z with
     | (z125, z126, z127, z128, z129) =>
      bif decide ((IntKind.i64.wrap ((z125.length : Int) + (z126.length : Int))) ≤ 8) then
       (hasAt z129 x14).bind fun u13 =>
       some ((putAt z129 x14 (DNode.mk n31.kind z125 z126 z127 z128)), 0, 0, 0, 0, 0, false)
      else
       (halfX n31.kind z125 z126 z127 z128).bind fun z => match z with
        | (z139, z140, z141, z142, z143, z144, z145, z146, z147, z148, z149, z150, z151) =>
         (hasAt z129 x14).bind fun u14 =>
         (takeX F (putAt z129 x14 (DNode.mk n31.kind z143 z144 z145 z146)) (DNode.mk z151 z142 z141 z140 z139)).bind fun z => match z with
          | (z152, z153) =>
           some (z152, z147, z148, z149, z150, z153, true)
def addX (F : Nat) (e : DElem) (N : NL) (root : Int) : Option (Int × NL) :=
 (fixD (σ := (List (Int ⊕ DNode)) × Int) (ρ := InsT) (insB F e) F (N, root)).bind fun z => match z with
  | (z39, z40, z41, z42, z43, z44, z45) =>
   bif (!z45) then
    some (root, z39)
   else
    (nodeAt z39 root).bind fun n41 =>
    (nodeAt z39 z44).bind fun n42 =>
    (node_Greatest F n41).bind fun r84 =>
    (node_Greatest F n42).bind fun r85 =>
    (takeX F z39 (DNode.mk 2 [] [root, z44] [(DSpot.mk (DKey.mk z40 z41 z42) z43)] [r84, r85])).bind fun z => match z with
     | (z154, z155) =>
      some (z155, z154)
variable {F : Nat} [Big F]
theorem kindAt_nat {N : NL} {k : Nat} {x : Int ⊕ DNode} (h : N[k]? = some x) : kindAt N (k : Int) = some (kindN x) := by
 unfold kindAt; rw [if_neg (by omega), Int.toNat_natCast, h]; rfl
theorem takeX_eq {N : NL} (n : DNode) (hl : N.length ≤ 1000) : ∃ N' j, takeX F N n = some (N', ((j : Nat) : Int)) ∧ TakeP N n N' j := by
 unfold takeX
 rw [loop_find (ρ := Unit ⊕ (List (Int ⊕ DNode) × Int)) N (fun k x => if kindN x = 0 then some (.inr (putAt N (k : Int) n, (k : Int))) else none) (.inl ()) (by omega) rfl ?hs ?he]
 case hs =>
  intro k x hk _
  have hkl := (List.getElem?_eq_some_iff.1 hk).1
  rw [decide_eq_true (by omega), cond_true, kindAt_nat hk, Option.bind_some]
  by_cases h : kindN x = 0
  · rw [show (kindN x == 0) = true by simpa using h, cond_true, has_at ⟨by omega, by omega⟩, Option.bind_some, if_pos h]
  · rw [show (kindN x == 0) = false by simpa using h, cond_false, if_neg h, w64 (by omega) (by omega)]
 case he => rw [decide_eq_false (by omega), cond_false]
 rw [Option.bind_some]
 cases hf : N.zipIdx.findSome? (fun p => if kindN p.1 = 0 then some (Sum.inr (putAt N (p.2 : Int) n, (p.2 : Int)) : Unit ⊕ (List (Int ⊕ DNode) × Int)) else none) with
 | some r =>
  obtain ⟨k, x, hk, hr⟩ := find_some (w := fun k x => if kindN x = 0 then some (Sum.inr (putAt N (k : Int) n, (k : Int)) : Unit ⊕ (List (Int ⊕ DNode) × Int)) else none) hf
  have hkl := (List.getElem?_eq_some_iff.1 hk).1
  split at hr
  · rename_i h0
    obtain rfl := Option.some.inj hr
    refine ⟨putAt N (k : Int) n, k, rfl, ⟨?_, fun q hq => ?_, fun y hy => ?_, .inl (putAt_length _ _ _), fun hn => ?_⟩⟩
    · have := putAt_self N (i := (k : Int)) (n := n) (by rw [Int.toNat_natCast]; exact hkl)
      rwa [Int.toNat_natCast] at this
    · exact putAt_get N (by rw [Int.toNat_natCast]; exact hq)
    · rw [hk] at hy
      obtain rfl := Option.some.inj hy
      exact h0
    · unfold putAt
      rw [Int.toNat_natCast]
      have := used_set (.inr n) hk
      rw [if_neg (fun h => usedB_iff.1 h h0), if_pos (usedB_iff.2 hn)] at this
      omega
  · cases hr
 | none =>
  have hn := (find_none (w := fun k x => if kindN x = 0 then some (Sum.inr (putAt N (k : Int) n, (k : Int)) : Unit ⊕ (List (Int ⊕ DNode) × Int)) else none)).1 hf
  have hall : ∀ (q : Nat) (x : Int ⊕ DNode), N[q]? = some x → kindN x ≠ 0 := fun q x hx h0 => by
   have := hn q x hx
   rw [if_pos h0] at this; cases this
  refine ⟨N ++ [.inr n], N.length, ?_, ⟨by rw [List.getElem?_append_right (Nat.le_refl _)]; simp, fun q hq => ?_, fun x hx => ?_, .inr ⟨by simp, rfl, hall⟩, fun hk => ?_⟩⟩
  · have hr : roomN 104 (N.length + 1) = some () := by unfold roomN; rw [if_pos ⟨by omega, by unfold maxLen; omega⟩]
    dsimp only [Option.getD_none]
    rw [hr, Option.bind_some, List.length_append, List.length_singleton, w64 (by omega) (by omega)]
    congr 2; omega
  · rcases Nat.lt_or_ge q N.length with h | h
    · rw [List.getElem?_append_left h]
    · rw [List.getElem?_eq_none (by rw [List.length_append, List.length_singleton]; omega), List.getElem?_eq_none h]
  · have := (List.getElem?_eq_some_iff.1 hx).1; omega
  · unfold used
    rw [List.countP_append, List.countP_singleton, if_pos (usedB_iff.2 hk)]
theorem tw_mem {α : Type} {p : α → Bool} {x : α} : ∀ {l : List α}, x ∈ l.takeWhile p → p x = true
 | [], h => by simp at h
 | a :: l, h => by
  cases ha : p a with
  | true =>
   rw [List.takeWhile_cons_of_pos ha] at h
   rcases List.mem_cons.1 h with rfl | h
   · exact ha
   · exact tw_mem h
  | false => rw [List.takeWhile_cons_of_neg (by simp [ha])] at h; cases h
theorem posX_eq (l : List DElem) (e : DElem) (hl : l.length ≤ 1000) : ∃ w : Nat, posX F l e = some (w : Int) ∧ w ≤ l.length ∧ (∀ x ∈ l.take w, cmpS (spotE x) (spotE e) < 0) ∧ ∀ x, l[w]? = some x → ¬ cmpS (spotE x) (spotE e) < 0 := by
 obtain ⟨w1, w2⟩ : (∀ x ∈ l.takeWhile (fun x => decide (cmpS (spotE x) (spotE e) < 0)), cmpS (spotE x) (spotE e) < 0) ∧ ∀ x, l[(l.takeWhile (fun x => decide (cmpS (spotE x) (spotE e) < 0))).length]? = some x → ¬ cmpS (spotE x) (spotE e) < 0 := by
  refine ⟨fun x hx => by simpa using tw_mem hx, ?_⟩
  clear hl
  induction l with
  | nil => intro x hx; simp at hx
  | cons a l ih =>
   intro x hx
   by_cases h : cmpS (spotE a) (spotE e) < 0
   · rw [List.takeWhile_cons_of_pos (by simpa using h), List.length_cons, List.getElem?_cons_succ] at hx
     exact ih x hx
   · rw [List.takeWhile_cons_of_neg (by simpa using h)] at hx
     obtain rfl : a = x := by simpa using hx
     exact h
 have hpre : l.takeWhile (fun x => decide (cmpS (spotE x) (spotE e) < 0)) <+: l := List.takeWhile_prefix _
 have hle := hpre.length_le
 have ht : l.take (l.takeWhile (fun x => decide (cmpS (spotE x) (spotE e) < 0))).length = l.takeWhile (fun x => decide (cmpS (spotE x) (spotE e) < 0)) := (List.prefix_iff_eq_take.1 hpre).symm
 generalize hw : (l.takeWhile (fun x => decide (cmpS (spotE x) (spotE e) < 0))).length = w at *
 refine ⟨w, ?_, hle, by rw [ht]; exact w1, w2⟩
 unfold posX
 refine loop_run (fun k => (k : Int)) w rfl (by omega) (fun k hk => ?_) ?_
 · have hkl : k < l.length := by omega
   have hg : l[k]? = some l[k] := List.getElem?_eq_getElem hkl
   have hmem : l[k] ∈ l.take w := List.mem_of_getElem? (by rw [List.getElem?_take_of_lt hk]; exact hg)
   rw [decide_eq_true (by omega), cond_true, idx_nat', hg, Option.bind_some, elem_Spot_eq, Option.bind_some, elem_Spot_eq, Option.bind_some, key_CmpSpot_eq, Option.bind_some, decide_eq_true (w1 _ (by rw [← ht]; exact hmem)), Option.bind_some, cond_true, w64 (by omega) (by omega)]
   rfl
 · by_cases h : w < l.length
   · have hg : l[w]? = some l[w] := List.getElem?_eq_getElem h
     rw [decide_eq_true (by omega), cond_true, idx_nat', hg, Option.bind_some, elem_Spot_eq, Option.bind_some, elem_Spot_eq, Option.bind_some, key_CmpSpot_eq, Option.bind_some, decide_eq_false (w2 _ hg), Option.bind_some, cond_false]
   · rw [decide_eq_false (by omega), cond_false, Option.bind_some, cond_false]
theorem insAt_sorted {l : List DElem} {e : DElem} {w : Nat} (ho : l.Pairwise SpO) (hw : w ≤ l.length) (h1 : ∀ x ∈ l.take w, cmpS (spotE x) (spotE e) < 0) (h2 : ∀ x, l[w]? = some x → ¬ cmpS (spotE x) (spotE e) < 0) (hne : ∀ x ∈ l, spotE x ≠ spotE e) :
 (insAt l w e).Pairwise SpO ∧ ∀ x, x ∈ insAt l w e ↔ x = e ∨ x ∈ l := by
 have ho' := ho
 rw [← List.take_append_drop w l] at ho'
 obtain ⟨o1, o2, o3⟩ := List.pairwise_append.1 ho'
 have hd : ∀ x ∈ l.drop w, SpO e x := fun x hx => by
  have h0 : ∀ y, l[w]? = some y → SpO e y := fun y hy => by
   have h3 := h2 y hy
   have h4 := hne y (List.mem_of_getElem? hy)
   have h5 : cmpS (spotE y) (spotE e) ≠ 0 := fun h => h4 ((cmp_cmpS.zero _ _).1 h)
   have h6 := cmp_cmpS.neg (spotE y) (spotE e)
   show cmpS (spotE e) (spotE y) < 0
   omega
  obtain ⟨q, hq⟩ := List.mem_iff_getElem?.1 hx
  rw [List.getElem?_drop] at hq
  cases q with
  | zero => exact h0 x (by simpa using hq)
  | succ q =>
   have hlt := (List.getElem?_eq_some_iff.1 hq).1
   have hg : l[w]? = some l[w] := List.getElem?_eq_getElem (by omega)
   exact (h0 _ hg).trans (pairwise_at ho (by omega) hg hq)
 unfold insAt
 refine ⟨List.pairwise_append.2 ⟨o1, List.pairwise_cons.2 ⟨hd, o2⟩, fun a ha b hb => ?_⟩, fun x => ?_⟩
 · rcases List.mem_cons.1 hb with rfl | hb
   · exact h1 a ha
   · exact o3 a ha b hb
 · conv => rhs; rw [← List.take_append_drop w l]
   rw [List.mem_append, List.mem_cons, List.mem_append]
   constructor
   · rintro (h | h | h)
     · exact .inr (.inl h)
     · exact .inl h
     · exact .inr (.inr h)
   · rintro (h | h | h)
     · exact .inr (.inl h)
     · exact .inl h
     · exact .inr (.inr h)
structure InsPost (e : DElem) (N N' : NL) (h : Nat) (i : Int) (s : Span) (m : Nat) (R : List Int) (X : List DSpot) : Prop where
 fr : Fr2 N N' (ids (fN N) h i) (R.flatMap (ids (fN N') h)) (h + 1)
 ch : Ch (fun k t s' => SubT (fN N') h k m s' ∧ greatR (nd (fN N') k) = t) X s R (R.map fun k => greatR (nd (fN N') k))
 elems : ∀ x, x ∈ R.flatMap (elemsAt (fN N') h) ↔ x = e ∨ x ∈ elemsAt (fN N) h i
theorem kids_agree {N N' : NL} {h : Nat} {X : List DSpot} {s : Span} {Ks Ts : List Int} (hl : N.length ≤ N'.length) (c : Ch (KidP (fN N) h) X s Ks Ts) (hj : ∀ j ∈ Ks.flatMap (ids (fN N) h), N'[j]? = N[j]?) :
 Ch (KidP (fN N') h) X s Ks Ts ∧ Ks.flatMap (ids (fN N') h) = Ks.flatMap (ids (fN N) h) ∧ Ks.flatMap (elemsAt (fN N') h) = Ks.flatMap (elemsAt (fN N) h) := by
 have key : ∀ k ∈ Ks, ∀ {m : Nat} {s : Span}, SubT (fN N) h k m s → SubT (fN N') h k m s ∧ ids (fN N') h k = ids (fN N) h k ∧ elemsAt (fN N') h k = elemsAt (fN N) h k ∧ nd (fN N') k = nd (fN N) k := fun k hk {m s} x =>
  x.agree hl fun j hjk => hj j (List.mem_flatMap.2 ⟨k, hk, hjk⟩)
 refine ⟨c.mono fun k t s' hk x => ⟨(key k hk x.1).1, by rw [(key k hk x.1).2.2.2]; exact x.2⟩, flat_same fun k hk => ?_, flatMap_same fun k hk => ?_⟩
 · obtain ⟨t, s', x, _⟩ := c.mem k hk; exact (key k hk x.1).2.1
 · obtain ⟨t, s', x, _⟩ := c.mem k hk; exact (key k hk x.1).2.2.1
theorem Ch.tmem {P : Int → Int → Span → Prop} : ∀ {xs : List DSpot} {s : Span} {ks ts : List Int}, Ch P xs s ks ts → ∀ t ∈ ts, ∃ k s', k ∈ ks ∧ P k t s'
 | [], s, ks, ts, ⟨k, t, h1, h2, c⟩, q, hq => by
  subst h1 h2
  rw [List.mem_singleton.1 hq]; exact ⟨k, s, List.mem_cons_self, c⟩
 | x :: xs, s, ks, ts, ⟨k, ks', t, ts', h1, h2, h3, h4, c⟩, q, hq => by
  subst h1 h2
  rcases List.mem_cons.1 hq with rfl | hq
  · exact ⟨k, _, List.mem_cons_self, h4⟩
  · obtain ⟨k', s', i1, i2⟩ := c.tmem q hq
    exact ⟨k', s', List.mem_cons_of_mem _ i1, i2⟩
theorem inner_mk {N : NL} (hc : ChkL N) (hl : N.length ≤ 400) {h : Nat} {X : List DSpot} {s : Span} {Ks Ts : List Int} (c : Ch (KidP (fN N) h) X s Ks Ts) (h2 : 2 ≤ Ks.length) (h8 : Ks.length ≤ 8) (ho : X.Pairwise SpotO) (hx : ∀ x ∈ X, chkE (zE x) = 0) :
 Inner ⟨2, [], Ks, X, Ts⟩ := by
 have hlen := c.lens
 refine ⟨rfl, h2, h8, hlen.1, hlen.2, fun k hk => ?_, fun t ht => ?_, hx, ho⟩
 · obtain ⟨t, s', x, _⟩ := c.mem k hk
   have := x.1.range
   rw [fN_length] at this
   omega
 · obtain ⟨k, s', _, x⟩ := c.tmem t ht
   rw [← x.2]
   exact great_ok (nd_chk hc x.1.range)
theorem SubT.some_elem {ns : List DNode} (hns : ∀ n ∈ ns, chkN n = 0) {h : Nat} {i : Int} {s : Span} (c : SubT ns h i 4 s) : ∃ e, e ∈ elemsAt ns h i := by
 have h0 := (okN_sub hns h i 1 s (by decide)).2 (by unfold mOf; rw [if_pos (by decide)]; exact c)
 have := elems_many hns h i 1 s h0 (by decide)
 have h1 : 0 < 4 ^ (h + 1) := Nat.pow_pos (by decide)
 exact List.exists_mem_of_length_pos (by omega)
theorem halfX_leaf {l : List DElem} (hl : l.length = 9) (ks : List Int) (xs : List DSpot) (ts : List Int) : ∃ x, l[4]? = some x ∧ halfX 1 l ks xs ts = some ([], [], [], l.drop 4, l.take 4, ks, xs, ts, (spotE x).key.pfs, (spotE x).key.obj, (spotE x).key.off, (spotE x).made, 1) := by
 have hg : l[4]? = some l[4] := List.getElem?_eq_getElem (by omega)
 refine ⟨_, hg, ?_⟩
 unfold halfX
 have h1 : lslice l 4 (l.length : Int) = some (l.drop 4) := lslice_from (k := 4) (by omega)
 have h2 : lslice l 0 4 = some (l.take 4) := lslice_to (k := 4) (by omega)
 have h3 : idx (l.drop 4) 0 = some l[4] := by rw [show (0 : Int) = ((0 : Nat) : Int) from rfl, idx_nat', List.getElem?_drop]; exact hg
 rw [show ((1 : Int) == 1) = true from rfl, cond_true, h1, Option.bind_some, grow_ok (by simp [hl]) (by simp [hl]), Option.bind_some, h2, Option.bind_some, h3, Option.bind_some, elem_Spot_eq, Option.bind_some]
theorem halfX_inner {ks : List Int} {xs : List DSpot} {ts : List Int} (hk : ks.length = 9) (hx : xs.length = 8) (ht : ts.length = 9) (l : List DElem) : ∃ x, xs[3]? = some x ∧ halfX 2 l ks xs ts = some (ts.drop 4, xs.drop 4, ks.drop 4, [], l, ks.take 4, xs.take 3, ts.take 4, x.key.pfs, x.key.obj, x.key.off, x.made, 2) := by
 have hg : xs[3]? = some xs[3] := List.getElem?_eq_getElem (by omega)
 refine ⟨_, hg, ?_⟩
 unfold halfX
 have h1 : lslice ks 4 (ks.length : Int) = some (ks.drop 4) := lslice_from (k := 4) (by omega)
 have h2 : lslice xs 4 (xs.length : Int) = some (xs.drop 4) := lslice_from (k := 4) (by omega)
 have h3 : lslice ts 4 (ts.length : Int) = some (ts.drop 4) := lslice_from (k := 4) (by omega)
 have h4 : lslice ks 0 4 = some (ks.take 4) := lslice_to (k := 4) (by omega)
 have h5 : lslice xs 0 3 = some (xs.take 3) := lslice_to (k := 3) (by omega)
 have h6 : lslice ts 0 4 = some (ts.take 4) := lslice_to (k := 4) (by omega)
 have h7 : idx xs 3 = some xs[3] := by rw [show (3 : Int) = ((3 : Nat) : Int) from rfl, idx_nat']; exact hg
 rw [show ((2 : Int) == 1) = false from rfl, cond_false, h1, Option.bind_some, h2, Option.bind_some, h3, Option.bind_some, grow_ok (by simp [hk]) (by simp [hk]), Option.bind_some, grow_ok (by simp [hx]) (by simp [hx]), Option.bind_some, grow_ok (by simp [ht]) (by simp [ht]), Option.bind_some, h7, Option.bind_some, h4, Option.bind_some, h5, Option.bind_some, h6, Option.bind_some]
end Go.Proofs.Ytcmkdoahkncakaa
namespace Go.Proofs.Ytcmkdoahkncakaa
set_option linter.unusedVariables false
set_option linter.unusedSimpArgs false
variable {F : Nat} [Big F]
theorem Fr2.cong {N N' : NL} {I I' K K' : List Nat} {c : Nat} (f : Fr2 N N' I K c) (h1 : I = I') (h2 : K = K') : Fr2 N N' I' K' c := by subst h1 h2; exact f
theorem nd_of {N : NL} {i : Int} {n : DNode} (h : N[i.toNat]? = some (.inr n)) : nd (fN N) i = n := by unfold nd; rw [fN_get, h]; rfl
def InsOut (F : Nat) (e : DElem) (N : NL) (h mf : Nat) (i : Int) (s : Span) (m : Nat) : Prop :=
 ∃ (N' : NL) (sp : DSpot) (r : Int) (b : Bool), fixD (insB F e) mf (N, i) = some (N', sp.key.pfs, sp.key.obj, sp.key.off, sp.made, r, b) ∧
  ((b = false ∧ InsPost e N N' h i s m [i] []) ∨ (b = true ∧ chkE (zE sp) = 0 ∧ InsPost e N N' h i s 4 [i, r] [sp]))
def z0 : DSpot := ⟨⟨0, 0, 0⟩, 0⟩
omit [Big F] in
theorem insB_small {e : DElem} {rf : NL × Int → Option InsT} {N N2 : NL} {i : Int} {n : DNode} {l : List DElem} {ks : List Int} {xs : List DSpot} {ts : List Int} (hn : nodeAt N i = some n) (hm : insM F e rf N i n = some (l, ks, xs, ts, N2)) (h8 : l.length + ks.length ≤ 8) (hi : 0 ≤ i ∧ i < (N2.length : Int)) :
 insB F e rf (N, i) = some (putAt N2 i ⟨n.kind, l, ks, xs, ts⟩, 0, 0, 0, 0, 0, false) := by
 unfold insB
 dsimp only
 rw [hn, Option.bind_some, hm, Option.bind_some]
 dsimp only
 rw [w64 (by omega) (by omega), decide_eq_true (by omega), cond_true, has_at hi, Option.bind_some]
theorem insB_large {e : DElem} {rf : NL × Int → Option InsT} {N N2 : NL} {i : Int} {n : DNode} {l : List DElem} {ks : List Int} {xs : List DSpot} {ts : List Int} (hn : nodeAt N i = some n) (hm : insM F e rf N i n = some (l, ks, xs, ts, N2)) (h8 : l.length + ks.length = 9) (hi : 0 ≤ i ∧ i < (N2.length : Int)) (hl : N2.length ≤ 1000)
 {r1 : List Int} {r2 : List DSpot} {r3 : List Int} {r4 l1 : List DElem} {l2 : List Int} {l3 : List DSpot} {l4 : List Int} {sp : DSpot} {k : Int} (hh : halfX n.kind l ks xs ts = some (r1, r2, r3, r4, l1, l2, l3, l4, sp.key.pfs, sp.key.obj, sp.key.off, sp.made, k)) :
 ∃ N' j, insB F e rf (N, i) = some (N', sp.key.pfs, sp.key.obj, sp.key.off, sp.made, ((j : Nat) : Int), true) ∧ TakeP (putAt N2 i ⟨n.kind, l1, l2, l3, l4⟩) ⟨k, r4, r3, r2, r1⟩ N' j := by
 obtain ⟨N', j, h1, h2⟩ := takeX_eq (F := F) (N := putAt N2 i ⟨n.kind, l1, l2, l3, l4⟩) ⟨k, r4, r3, r2, r1⟩ (by rw [putAt_length]; exact hl)
 refine ⟨N', j, ?_, h2⟩
 unfold insB
 dsimp only
 rw [hn, Option.bind_some, hm, Option.bind_some]
 dsimp only
 rw [w64 (by omega) (by omega), decide_eq_false (by omega), cond_false, hh, Option.bind_some]
 dsimp only
 rw [has_at hi, Option.bind_some, h1, Option.bind_some]
theorem ins_leaf {e : DElem} (he : chkE e = 0) {mf : Nat} {N : NL} {i : Int} {m : Nat} {s : Span} (hm : 0 < mf) (hc : ChkL N) (hl : N.length ≤ 400) (c : SubT (fN N) 0 i m s) (hs : inS s (spotE e) = true) (hne : ∀ x ∈ elemsAt (fN N) 0 i, spotE x ≠ spotE e) : InsOut F e N 0 mf i s m := by
 obtain ⟨mf, rfl⟩ : ∃ q, mf = q + 1 := ⟨mf - 1, by omega⟩
 have L := c.leaf hc
 have hr := c.range
 rw [fN_length] at hr
 obtain ⟨hnode, hat⟩ := c.node
 have hk0 := c.kind
 obtain ⟨_, hk1, hmk, hin⟩ := c
 have hne' : ∀ x ∈ (nd (fN N) i).elems, spotE x ≠ spotE e := hne
 have hel : ∀ x, x ∈ elemsAt (fN N) 0 i ↔ x ∈ (nd (fN N) i).elems := fun x => Iff.rfl
 generalize hnn : nd (fN N) i = n at *
 obtain ⟨w, hw, hwl, hw1, hw2⟩ := posX_eq (F := F) n.elems e (by have := L.len; omega)
 obtain ⟨so, sm⟩ := insAt_sorted L.ord hwl hw1 hw2 hne'
 have hlen := insAt_length e hwl
 have h8 := L.len
 generalize hl' : insAt n.elems w e = l' at *
 have hok : ∀ x ∈ l', chkE x = 0 := fun x hx => by
  rcases (sm x).1 hx with rfl | hx
  · exact he
  · exact L.ok x hx
 have hin' : ∀ x ∈ l', inS s (spotE x) = true := fun x hx => by
  rcases (sm x).1 hx with rfl | hx
  · exact hs
  · exact hin x hx
 have hM : ∀ rf, insM F e rf N i n = some (l', [], [], [], outAt N i) := fun rf => by
  unfold insM
  rw [hk1, show ((1 : Int) == 1) = true from rfl, cond_true, hw, Option.bind_some]
  unfold inss
  rw [if_pos ⟨by omega, by omega, by omega, by unfold maxLen; omega⟩, Option.bind_some, Int.toNat_natCast, hl', L.kids, L.seps, L.tids]
 have fr0 := Fr2.start hc hat hk0
 have hat1 : ∃ x, (outAt N i)[i.toNat]? = some x ∧ kindN x ≠ 0 := by
  have := outAt_kd N i i.toNat
  rw [kd_some hat] at this
  obtain ⟨x, hx, hxk⟩ := kd_at this
  exact ⟨x, hx, by rw [hxk]; exact hk0⟩
 obtain ⟨x1, hx1, hxk1⟩ := hat1
 have hI : ids (fN N) 0 i = [i.toNat] := rfl
 by_cases hs8 : l'.length ≤ 8
 · have Lf : Leaf ⟨1, l', [], [], []⟩ := ⟨rfl, rfl, rfl, hs8, hok, so⟩
   have hck := leaf_chk (n := ⟨1, l', [], [], []⟩) rfl Lf
   have hnd : nd (fN (putAt (outAt N i) i ⟨1, l', [], [], []⟩)) i = ⟨1, l', [], [], []⟩ := nd_put (by rw [outAt_length]; exact hr)
   refine ⟨putAt (outAt N i) i ⟨1, l', [], [], []⟩, z0, 0, false, ?_, .inl ⟨rfl, ⟨?_, ?_, ?_⟩⟩⟩
   · show insB F e (fixD (insB F e) mf) (N, i) = _
     rw [insB_small hnode (hM _) (by simpa using hs8) (by rw [outAt_length]; exact hr), hk1]; rfl
   · exact ((fr0.put List.mem_cons_self List.mem_cons_self hx1 hxk1 (show (1 : Int) ≠ 0 by decide) hck).more (Nat.zero_le _)).cong rfl (by simp [ids])
   · refine ⟨i, _, rfl, rfl, ⟨?_, by rw [hnd], by rw [hnd]; show m ≤ l'.length; omega, by rw [hnd]; exact hin'⟩, rfl⟩
     rw [fN_length, putAt_length, outAt_length]; exact hr
   · intro x
     rw [hel, ← sm x, List.flatMap_singleton]
     show x ∈ (nd _ i).elems ↔ _
     rw [hnd]
 · have h9 : l'.length = 9 := by omega
   obtain ⟨x, hx, hh⟩ := halfX_leaf h9 [] [] []
   rw [← hk1] at hh
   obtain ⟨N', j, hB, tk⟩ := insB_large (sp := spotE x) hnode (hM (fixD (insB F e) mf)) (by simpa using h9) (by rw [outAt_length]; exact hr) (by rw [outAt_length]; omega) hh
   rw [hk1] at tk
   have e48 : l' = l'.take 4 ++ l'.drop 4 := (List.take_append_drop 4 l').symm
   have hso := so
   rw [e48] at hso
   obtain ⟨o1, o2, o3⟩ := List.pairwise_append.1 hso
   have hl1 : (l'.take 4).length = 4 := by rw [List.length_take]; omega
   have hl2 : (l'.drop 4).length = 5 := by rw [List.length_drop]; omega
   have hxd : ∃ r, l'.drop 4 = x :: r := by
    have h4 : 4 < l'.length := by omega
    rw [List.getElem?_eq_getElem h4] at hx
    obtain rfl := Option.some.inj hx
    exact ⟨_, List.drop_eq_getElem_cons h4⟩
   obtain ⟨rr, hrr⟩ := hxd
   have Lf1 : Leaf ⟨1, l'.take 4, [], [], []⟩ := ⟨rfl, rfl, rfl, by show (l'.take 4).length ≤ 8; omega, fun y hy => hok y (List.mem_of_mem_take hy), o1⟩
   have Lf2 : Leaf ⟨1, l'.drop 4, [], [], []⟩ := ⟨rfl, rfl, rfl, by show (l'.drop 4).length ≤ 8; omega, fun y hy => hok y (List.mem_of_mem_drop hy), o2⟩
   have hck1 := leaf_chk (n := ⟨1, l'.take 4, [], [], []⟩) rfl Lf1
   have hck2 := leaf_chk (n := ⟨1, l'.drop 4, [], [], []⟩) rfl Lf2
   have fr1 := fr0.put List.mem_cons_self List.mem_cons_self hx1 hxk1 (n := ⟨1, l'.take 4, [], [], []⟩) (show (1 : Int) ≠ 0 by decide) hck1
   have hat2 : (putAt (outAt N i) i ⟨1, l'.take 4, [], [], []⟩)[i.toNat]? = some (.inr ⟨1, l'.take 4, [], [], []⟩) := putAt_self _ (by rw [outAt_length]; omega)
   have fr2 := fr1.take tk (show (1 : Int) ≠ 0 by decide) hck2 fun q hq => by
    obtain rfl : q = i.toNat := by simpa using hq
    exact ⟨_, hat2, show (1 : Int) ≠ 0 by decide⟩
   have hij : i.toNat ≠ j := fun h => by
    subst h
    exact absurd (tk.free _ hat2) (show (1 : Int) ≠ 0 by decide)
   have hNi : N'[i.toNat]? = some (.inr ⟨1, l'.take 4, [], [], []⟩) := by rw [tk.same _ hij]; exact hat2
   have hnd1 : nd (fN N') i = ⟨1, l'.take 4, [], [], []⟩ := nd_of hNi
   have hnd2 : nd (fN N') (j : Int) = ⟨1, l'.drop 4, [], [], []⟩ := nd_at (by rw [fN_get, tk.at_]; rfl)
   have hjl : j < N'.length := (List.getElem?_eq_some_iff.1 tk.at_).1
   have hil : i.toNat < N'.length := (List.getElem?_eq_some_iff.1 hNi).1
   have hxs : inS s (spotE x) = true := hin' x (List.mem_of_mem_drop (by rw [hrr]; exact List.mem_cons_self))
   refine ⟨N', spotE x, (j : Int), true, hB, .inr ⟨rfl, spot_ok (hok x (List.mem_of_mem_drop (by rw [hrr]; exact List.mem_cons_self))), ⟨?_, ?_, ?_⟩⟩⟩
   · refine ((fr2.more (by omega)).perm (K' := [i.toNat, j]) (List.Perm.swap _ _ _)).cong rfl ?_
     simp [ids]
   · refine ⟨i, [(j : Int)], _, _, rfl, rfl, hxs, ⟨⟨?_, by rw [hnd1], by rw [hnd1]; show 4 ≤ (l'.take 4).length; omega, ?_⟩, rfl⟩, (j : Int), _, rfl, rfl, ⟨?_, by rw [hnd2], by rw [hnd2]; show 4 ≤ (l'.drop 4).length; omega, ?_⟩, rfl⟩
     · rw [fN_length]; omega
     · rw [hnd1]
       intro y hy
       exact inS_hiS.2 ⟨(inS_iff.1 (hin' y (List.mem_of_mem_take hy))).1, o3 y hy x (by rw [hrr]; exact List.mem_cons_self)⟩
     · rw [fN_length]; omega
     · rw [hnd2]
       intro y hy
       refine inS_loS.2 ⟨?_, (inS_iff.1 (hin' y (List.mem_of_mem_drop hy))).2⟩
       have hy' : y ∈ x :: rr := by rw [← hrr]; exact hy
       rw [hrr] at o2
       rcases List.mem_cons.1 hy' with rfl | hy'
       · rw [cmp_cmpS.refl]; decide
       · have : cmpS (spotE x) (spotE y) < 0 := (List.pairwise_cons.1 o2).1 y hy'
         omega
   · intro y
     rw [hel, ← sm y, List.flatMap_cons, List.flatMap_singleton]
     show y ∈ (nd _ i).elems ++ (nd _ (j : Int)).elems ↔ _
     rw [hnd1, hnd2]
     show y ∈ l'.take 4 ++ l'.drop 4 ↔ _
     rw [← e48]
theorem two_ne (l : List DElem) (a : List Int) (b : List DSpot) (c : List Int) : (DNode.mk 2 l a b c).kind ≠ 0 := show (2 : Int) ≠ 0 by decide
theorem ins_fin {e : DElem} {N N2 : NL} {h mf : Nat} {i : Int} {m : Nat} {s : Span} {n : DNode} {Ks : List Int} {Xs : List DSpot} {Ts : List Int} (hnode : nodeAt N i = some n) (hk2 : n.kind = 2) (hM : insM F e (fixD (insB F e) mf) N i n = some ([], Ks, Xs, Ts, N2)) (hi : 0 ≤ i ∧ i < (N2.length : Int)) (hl2 : N2.length ≤ 400)
 (fr : Fr2 N N2 (ids (fN N) (h + 1) i) (i.toNat :: Ks.flatMap (ids (fN N2) h)) (h + 1)) (hole : ∃ x, N2[i.toNat]? = some x ∧ kindN x ≠ 0) (c : Ch (KidP (fN N2) h) Xs s Ks Ts) (h2 : 2 ≤ Ks.length) (h9 : Ks.length ≤ 9) (hm : m ≤ Ks.length) (ho : Xs.Pairwise SpotO) (hx : ∀ x ∈ Xs, chkE (zE x) = 0)
 (el : ∀ x, x ∈ Ks.flatMap (elemsAt (fN N2) h) ↔ x = e ∨ x ∈ elemsAt (fN N) (h + 1) i) : InsOut F e N (h + 1) (mf + 1) i s m := by
 have hI : i.toNat ∈ ids (fN N) (h + 1) i := SubT.head _ _
 have hc2 := fr.chk
 obtain ⟨x1, hx1, hxk1⟩ := hole
 have hiK : i.toNat ∉ Ks.flatMap (ids (fN N2) h) := (List.nodup_cons.1 fr.nodup).1
 have hlens := c.lens
 by_cases h8 : Ks.length ≤ 8
 · have hck := inner_chk (n := ⟨2, [], Ks, Xs, Ts⟩) rfl (inner_mk hc2 hl2 c h2 h8 ho hx)
   have hnd : nd (fN (putAt N2 i ⟨2, [], Ks, Xs, Ts⟩)) i = ⟨2, [], Ks, Xs, Ts⟩ := nd_put hi
   obtain ⟨a1, a2, a3⟩ := kids_agree (N' := putAt N2 i ⟨2, [], Ks, Xs, Ts⟩) (by rw [putAt_length]; exact Nat.le_refl _) c fun j hj => putAt_get N2 (show j ≠ i.toNat from fun h => hiK (by rw [← h]; exact hj))
   refine ⟨putAt N2 i ⟨2, [], Ks, Xs, Ts⟩, z0, 0, false, ?_, .inl ⟨rfl, ⟨?_, ?_, ?_⟩⟩⟩
   · show insB F e (fixD (insB F e) mf) (N, i) = _
     rw [insB_small hnode hM (by simpa using h8) hi, hk2]; rfl
   · refine ((fr.put hI List.mem_cons_self hx1 hxk1 (two_ne _ _ _ _) hck).more (by omega)).cong rfl ?_
     rw [List.flatMap_singleton, ids, hnd, a2]
   · refine ⟨i, _, rfl, rfl, ⟨?_, by rw [hnd], by rw [hnd]; exact hm, by rw [hnd]; exact a1⟩, rfl⟩
     rw [fN_length, putAt_length]; exact hi
   · intro x
     rw [List.flatMap_singleton, elemsAt, hnd, a3]
     exact el x
 · have hk9 : Ks.length = 9 := by omega
   obtain ⟨sp, hsp, hh⟩ := halfX_inner hk9 (show Xs.length = 8 by omega) (show Ts.length = 9 by omega) []
   rw [← hk2] at hh
   obtain ⟨N', j, hB, tk⟩ := insB_large hnode hM (by simpa using hk9) hi (by omega) hh
   rw [hk2] at tk
   have h3 : 3 < Xs.length := by omega
   have hspx : Xs[3] = sp := by rw [List.getElem?_eq_getElem h3] at hsp; exact Option.some.inj hsp
   have eX : Xs = Xs.take 3 ++ sp :: Xs.drop 4 := by rw [← hspx]; exact list_at Xs h3
   have eK : Ks = Ks.take 4 ++ Ks.drop 4 := (List.take_append_drop 4 Ks).symm
   have eT : Ts = Ts.take 4 ++ Ts.drop 4 := (List.take_append_drop 4 Ts).symm
   have l1 : (Ks.take 4).length = 4 := by rw [List.length_take]; omega
   have l2 : (Xs.take 3).length = 3 := by rw [List.length_take]; omega
   have l3 : (Ts.take 4).length = 4 := by rw [List.length_take]; omega
   have l4 : (Ks.drop 4).length = 5 := by rw [List.length_drop]; omega
   have c' := c
   rw [eX, eK, eT] at c'
   have ho' := ho
   rw [eX] at ho'
   obtain ⟨s1, s2, s3⟩ := Ch.split (by omega) (by omega) ho' c'
   obtain ⟨o1, o2, o3⟩ := List.pairwise_append.1 ho'
   have hck1 := inner_chk (n := ⟨2, [], Ks.take 4, Xs.take 3, Ts.take 4⟩) rfl (inner_mk hc2 hl2 s2 (by omega) (by omega) o1 fun x h => hx x (List.mem_of_mem_take h))
   have hck2 := inner_chk (n := ⟨2, [], Ks.drop 4, Xs.drop 4, Ts.drop 4⟩) rfl (inner_mk hc2 hl2 s3 (by omega) (by omega) (List.pairwise_cons.1 o2).2 fun x h => hx x (List.mem_of_mem_drop h))
   have fr1 := fr.put hI List.mem_cons_self hx1 hxk1 (two_ne [] (Ks.take 4) (Xs.take 3) (Ts.take 4)) hck1
   have hat2 : (putAt N2 i ⟨2, [], Ks.take 4, Xs.take 3, Ts.take 4⟩)[i.toNat]? = some (.inr ⟨2, [], Ks.take 4, Xs.take 3, Ts.take 4⟩) := putAt_self _ (by omega)
   have hKu : ∀ q ∈ Ks.flatMap (ids (fN N2) h), ∃ n : DNode, N2[q]? = some (.inr n) ∧ n.kind ≠ 0 := fun q hq => by
    obtain ⟨k, hk, hq⟩ := List.mem_flatMap.1 hq
    obtain ⟨t, s', x, _⟩ := c.mem k hk
    exact x.1.used q hq
   have hne : ∀ q ∈ Ks.flatMap (ids (fN N2) h), q ≠ i.toNat := fun q hq h => hiK (by rw [← h]; exact hq)
   have fr2 := fr1.take tk (two_ne _ _ _ _) hck2 fun q hq => by
    rcases List.mem_cons.1 hq with rfl | hq
    · exact ⟨_, hat2, two_ne _ _ _ _⟩
    · obtain ⟨y, hy, hyk⟩ := hKu q hq
      exact ⟨.inr y, by rw [putAt_get N2 (hne q hq)]; exact hy, hyk⟩
   have hij : i.toNat ≠ j := fun h => by
    subst h
    exact absurd (tk.free _ hat2) (two_ne _ _ _ _)
   have hNi : N'[i.toNat]? = some (.inr ⟨2, [], Ks.take 4, Xs.take 3, Ts.take 4⟩) := by rw [tk.same _ hij]; exact hat2
   have hnd1 : nd (fN N') i = ⟨2, [], Ks.take 4, Xs.take 3, Ts.take 4⟩ := nd_of hNi
   have hnd2 : nd (fN N') (j : Int) = ⟨2, [], Ks.drop 4, Xs.drop 4, Ts.drop 4⟩ := nd_of (by rw [Int.toNat_natCast]; exact tk.at_)
   have hjl : j < N'.length := (List.getElem?_eq_some_iff.1 tk.at_).1
   have hil : i.toNat < N'.length := (List.getElem?_eq_some_iff.1 hNi).1
   have hlen : N2.length ≤ N'.length := by rcases tk.len with h | ⟨h, _⟩ <;> rw [putAt_length] at h <;> omega
   have hag : ∀ q ∈ Ks.flatMap (ids (fN N2) h), N'[q]? = N2[q]? := fun q hq => by
    have hqj : q ≠ j := fun h => by
     subst h
     obtain ⟨y, hy, hyk⟩ := hKu q hq
     exact absurd (tk.free (.inr y) (by rw [putAt_get N2 (hne q hq)]; exact hy)) hyk
    rw [tk.same q hqj, putAt_get N2 (hne q hq)]
   have sub1 : ∀ q ∈ (Ks.take 4).flatMap (ids (fN N2) h), q ∈ Ks.flatMap (ids (fN N2) h) := fun q hq => by
    rw [eK, List.flatMap_append]; exact List.mem_append_left _ hq
   have sub2 : ∀ q ∈ (Ks.drop 4).flatMap (ids (fN N2) h), q ∈ Ks.flatMap (ids (fN N2) h) := fun q hq => by
    rw [eK, List.flatMap_append]; exact List.mem_append_right _ hq
   obtain ⟨a1, a2, a3⟩ := kids_agree hlen s2 fun q hq => hag q (sub1 q hq)
   obtain ⟨b1, b2, b3⟩ := kids_agree hlen s3 fun q hq => hag q (sub2 q hq)
   refine ⟨N', sp, (j : Int), true, hB, .inr ⟨rfl, hx sp (by rw [eX]; simp), ⟨?_, ?_, ?_⟩⟩⟩
   · refine (fr2.perm (K' := i.toNat :: ((Ks.take 4).flatMap (ids (fN N2) h) ++ j :: (Ks.drop 4).flatMap (ids (fN N2) h))) ?_).cong rfl ?_
     · rw [show Ks.flatMap (ids (fN N2) h) = (Ks.take 4).flatMap (ids (fN N2) h) ++ (Ks.drop 4).flatMap (ids (fN N2) h) by rw [← List.flatMap_append, ← eK]]
       exact (List.Perm.swap _ _ _).trans (List.Perm.cons _ List.perm_middle.symm)
     · rw [List.flatMap_cons, List.flatMap_singleton, ids, ids, hnd1, hnd2, a2, b2, Int.toNat_natCast]; rfl
   · refine ⟨i, [(j : Int)], _, _, rfl, rfl, s1, ⟨⟨?_, by rw [hnd1], by rw [hnd1]; show 4 ≤ (Ks.take 4).length; omega, by rw [hnd1]; exact a1⟩, rfl⟩, (j : Int), _, rfl, rfl, ⟨?_, by rw [hnd2], by rw [hnd2]; show 4 ≤ (Ks.drop 4).length; omega, by rw [hnd2]; exact b1⟩, rfl⟩
     · rw [fN_length]; omega
     · rw [fN_length]; omega
   · intro x
     rw [← el x, List.flatMap_cons, List.flatMap_singleton, elemsAt, elemsAt, hnd1, hnd2]
     show x ∈ (Ks.take 4).flatMap _ ++ (Ks.drop 4).flatMap _ ↔ _
     rw [a3, b3, ← List.flatMap_append, ← eK]
theorem spot_mk (sp : DSpot) : DSpot.mk (DKey.mk sp.key.pfs sp.key.obj sp.key.off) sp.made = sp := rfl
theorem ins_code {e : DElem} (he : chkE e = 0) : ∀ (h mf : Nat) (N : NL) (i : Int) (m : Nat) (s : Span), h < mf → ChkL N → N.length ≤ 400 → used N + (h + 1) ≤ 400 → SubT (fN N) h i m s → (ids (fN N) h i).Nodup → inS s (spotE e) = true → (∀ x ∈ elemsAt (fN N) h i, spotE x ≠ spotE e) →
 InsOut F e N h mf i s m := by
 intro h
 induction h with
 | zero => exact fun mf N i m s hm hc hl _ c _ hs hne => ins_leaf he hm hc hl c hs hne
 | succ h ih =>
  intro mf N i m s hm hc hl hu c hn hs hne
  obtain ⟨mf, rfl⟩ : ∃ q, mf = q + 1 := ⟨mf - 1, by omega⟩
  have L := c.inner hc
  have hr := c.range
  rw [fN_length] at hr
  have hus := c.used
  obtain ⟨hnode, hat⟩ := c.node
  have hk0 := c.kind
  obtain ⟨_, hk2, hmk, hch⟩ := c
  obtain ⟨A, k, B, XA, XB, TA, t, TB, s', f⟩ := focus1 L.seps L.tids L.ord hch hs
  have hids : ids (fN N) (h + 1) i = i.toNat :: (A.flatMap (ids (fN N) h) ++ (ids (fN N) h k ++ B.flatMap (ids (fN N) h))) := by
   rw [ids, f.kids, List.flatMap_append, List.flatMap_cons]
  have hels : elemsAt (fN N) (h + 1) i = A.flatMap (elemsAt (fN N) h) ++ (elemsAt (fN N) h k ++ B.flatMap (elemsAt (fN N) h)) := by
   rw [elemsAt, f.kids, List.flatMap_append, List.flatMap_cons]
  generalize hnn : nd (fN N) i = n at *
  have hn0 := hn
  rw [ids, hnn, f.kids] at hn
  obtain ⟨d1, d2, d3⟩ := nodup_parts hn
  have hN1 : ∀ j ∈ ids (fN N) h k, (outAt N i)[j]? = N[j]? := fun j hj => outAt_get N (fun e => d1 (e ▸ hj))
  obtain ⟨q1, q2, q3, q4⟩ := SubT.agree (N' := outAt N i) (by rw [outAt_length]; exact Nat.le_refl _) f.here.1 hN1
  obtain ⟨N2, sp, r, b, hrun, hpost⟩ := ih mf (outAt N i) k 4 s' (by omega) (hc.out i) (by rw [outAt_length]; exact hl) (by rw [used_out]; omega) q1 (by rw [q2]; exact d2) f.in_ (fun x hx => hne x (by rw [hels, ← q3]; simp [hx]))
  have hw : wayR n.seps (spotE e) = A.length := f.way
  have hkl : n.kids.length = A.length + B.length + 1 := by rw [f.kids]; simp; omega
  have h8 := L.eight
  have hta := f.ta
  have hxa := f.xa
  obtain ⟨R, X, P, hXp, hXc, hRl, hXo, hM⟩ : ∃ R X, InsPost e (outAt N i) N2 h k s' 4 R X ∧ (∀ x ∈ X, chkE (zE x) = 0) ∧ X.length + 1 = R.length ∧ R.length ≤ 2 ∧ (XA ++ (X ++ XB)).Pairwise SpotO ∧
   insM F e (fixD (insB F e) mf) N i n = some ([], A ++ (R ++ B), XA ++ (X ++ XB), TA ++ (R.map (fun k => greatR (nd (fN N2) k)) ++ TB), N2) := by
   have hord := L.ord
   rw [f.seps] at hord
   have hcall : ∀ (K : InsT → Option ((List DElem) × (List Int) × (List DSpot) × (List Int) × (List (Int ⊕ DNode)))), True := fun _ => trivial
   rcases hpost with ⟨rfl, P⟩ | ⟨rfl, hsp, P⟩
   · refine ⟨[k], [], P, by simp, rfl, by simp, by simpa using hord, ?_⟩
     obtain ⟨k', t', e1, e2, x⟩ := P.ch
     obtain rfl : k = k' := by simpa using e1
     unfold insM
     rw [hk2, show ((2 : Int) == 1) = false from rfl, cond_false, elem_Spot_eq, Option.bind_some, node_Way_eq n _ (small_chk (inner_chk hk2 L)), Option.bind_some, hw, f.kids, idx_mid, Option.bind_some, hrun, Option.bind_some]
     dsimp only
     rw [Option.bind_some, x.1.node.1, Option.bind_some, great_node P.fr.chk x.1.range, Option.bind_some, f.tids, ← hta, idx_mid, Option.bind_some, cond_false, Int.toNat_natCast, set_len, L.elems, f.seps]
     simp
   · obtain ⟨k', ks', t', ts', e1, e2, i1, x, k2, t2, e3, e4, y⟩ := P.ch
     obtain ⟨rfl, rfl⟩ : k = k' ∧ [r] = ks' := by simpa using e1
     obtain rfl : r = k2 := by simpa using e3
     refine ⟨[k, r], [sp], P, by simpa using hsp, rfl, by simp, ?_, ?_⟩
     · obtain ⟨p1, p2, p3⟩ := List.pairwise_append.1 hord
       obtain ⟨y0, hy0⟩ := x.1.some_elem P.fr.chk
       have hy1 := (inS_hiS.1 ((x.1.elems P.fr.chk).2 y0 hy0).1)
       have hy2 := inS_hi_sub i1 ((x.1.elems P.fr.chk).2 y0 hy0).1
       have hlo : ∀ z ∈ XA, SpotO z sp := fun z hz => cmpS_le_lt (f.loX z hz _ hy2) hy1.2
       have hhi : ∀ z ∈ XB, SpotO sp z := fun z hz => f.hiX z hz sp i1
       refine List.pairwise_append.2 ⟨p1, List.pairwise_cons.2 ⟨hhi, p2⟩, fun a ha b hb => ?_⟩
       rcases List.mem_cons.1 hb with rfl | hb
       · exact hlo a ha
       · exact p3 a ha b hb
     · have hXl : n.seps.length = A.length + B.length := by have := L.seps; omega
       have htl : (TA ++ greatR (nd (fN N2) k) :: TB).length = A.length + B.length + 1 := by have := f.tb; simp; omega
       unfold insM
       rw [hk2, show ((2 : Int) == 1) = false from rfl, cond_false, elem_Spot_eq, Option.bind_some, node_Way_eq n _ (small_chk (inner_chk hk2 L)), Option.bind_some, hw, f.kids, idx_mid, Option.bind_some, hrun, Option.bind_some]
       dsimp only
       rw [Option.bind_some, x.1.node.1, Option.bind_some, great_node P.fr.chk x.1.range, Option.bind_some, f.tids, show idx (TA ++ t :: TB) (A.length : Int) = some t by rw [← hta]; exact idx_mid _ _ _, Option.bind_some, cond_true, w64 (by omega) (by omega), Int.toNat_natCast, show (TA ++ t :: TB).set A.length (greatR (nd (fN N2) k)) = TA ++ greatR (nd (fN N2) k) :: TB by rw [← hta]; exact set_len _ _ _ _, spot_mk]
       have hi1 : inss 8 (A ++ k :: B) ((A.length : Int) + 1) r = some (A ++ (k :: r :: B)) := by
        unfold inss
        rw [if_pos ⟨by omega, by simp; omega, by simp; omega, by unfold maxLen; simp; omega⟩, show ((A.length : Int) + 1).toNat = A.length + 1 by omega]
        unfold insAt
        rw [show A ++ k :: B = (A ++ [k]) ++ B by simp, List.take_left' (by simp), List.drop_left' (by simp)]; simp
       have hi2 : inss 32 n.seps (A.length : Int) sp = some (XA ++ sp :: XB) := by
        unfold inss
        rw [if_pos ⟨by omega, by omega, by omega, by unfold maxLen; omega⟩, Int.toNat_natCast]
        unfold insAt
        rw [f.seps, List.take_left' hxa, List.drop_left' hxa]
       have hi3 : inss 8 (TA ++ greatR (nd (fN N2) k) :: TB) ((A.length : Int) + 1) (greatR (nd (fN N2) r)) = some (TA ++ (greatR (nd (fN N2) k) :: greatR (nd (fN N2) r) :: TB)) := by
        unfold inss
        rw [if_pos ⟨by omega, by omega, by omega, by unfold maxLen; omega⟩, show ((A.length : Int) + 1).toNat = A.length + 1 by omega]
        unfold insAt
        rw [show TA ++ greatR (nd (fN N2) k) :: TB = (TA ++ [greatR (nd (fN N2) k)]) ++ TB by simp, List.take_left' (by simp; omega), List.drop_left' (by simp; omega)]; simp
       obtain ⟨_, _, _, _, j1⟩ := inss_some hi1
       obtain ⟨_, _, _, _, j2⟩ := inss_some hi2
       obtain ⟨_, _, _, _, j3⟩ := inss_some hi3
       rw [Int.toNat_natCast] at j2
       rw [hi1, Option.bind_some, hi2, Option.bind_some, y.1.node.1, Option.bind_some, great_node P.fr.chk y.1.range, Option.bind_some, hi3, Option.bind_some, j1, j2, j3, L.elems]
       simp
  have hl2 : N2.length ≤ 400 := by
   have h1 := P.fr.cap
   have h2 := P.fr.use
   rw [outAt_length] at h1
   rw [used_out] at h2
   omega
  have hr2 : 0 ≤ i ∧ i < (N2.length : Int) := by
   have := P.fr.len
   rw [outAt_length] at this
   omega
  have hab : ∀ a, a ∈ A ∨ a ∈ B → ∀ j ∈ ids (fN N) h a, N2[j]? = N[j]? := fun a ha j hj => by
   obtain ⟨x1, x2⟩ := d3 a ha
   obtain ⟨y, hy, hyk⟩ := hus j (by
    rw [hids]
    rcases ha with ha | ha
    · simp only [List.mem_cons, List.mem_append, List.mem_flatMap]; exact .inr (.inl ⟨a, ha, hj⟩)
    · simp only [List.mem_cons, List.mem_append, List.mem_flatMap]; exact .inr (.inr (.inr ⟨a, ha, hj⟩)))
   have hji : j ≠ i.toNat := fun e => x1 (e ▸ hj)
   rw [P.fr.out j (.inr y) (by rw [q2]; exact x2 j hj) (by rw [outAt_get N hji]; exact hy) hyk, hy]
  have hlen2 : N.length ≤ N2.length := by have := P.fr.len; rwa [outAt_length] at this
  have other : ∀ a, a ∈ A ∨ a ∈ B → ∀ {m : Nat} {s : Span}, SubT (fN N) h a m s → _ := fun a ha m s c => SubT.agree (N := N) (N' := N2) hlen2 c (hab a ha)
  have c2 := f.turn (KidP (fN N2) h) (fun a t' s'' ha x => ⟨(other a ha x.1).1, by rw [(other a ha x.1).2.2.2]; exact x.2⟩) R X _ P.ch
  have hkids : ∀ a, a ∈ A ∨ a ∈ B → ∃ t' s'', SubT (fN N) h a 4 s'' := fun a ha => by
   rcases ha with ha | ha
   · obtain ⟨t', s'', x1, _⟩ := f.lo a ha; exact ⟨t', s'', x1.1⟩
   · obtain ⟨t', s'', x1, _⟩ := f.hi a ha; exact ⟨t', s'', x1.1⟩
  have flat : ∀ (l : List Int), (∀ a ∈ l, a ∈ A ∨ a ∈ B) → l.flatMap (ids (fN N2) h) = l.flatMap (ids (fN N) h) ∧ l.flatMap (elemsAt (fN N2) h) = l.flatMap (elemsAt (fN N) h) := fun l hl => by
   constructor
   · exact flat_same fun a ha => by obtain ⟨t', s'', x1⟩ := hkids a (hl a ha); exact (other a (hl a ha) x1).2.1
   · exact flatMap_same fun a ha => by obtain ⟨t', s'', x1⟩ := hkids a (hl a ha); exact (other a (hl a ha) x1).2.2.1
  have fr := P.fr.up (i := i.toNat) (I1 := A.flatMap (ids (fN N) h)) (I3 := B.flatMap (ids (fN N) h)) rfl (by rw [q2, ← hids]; exact hn0) (fun j hj => hus j (by rw [hids, ← q2]; exact hj))
  rw [q2, ← hids] at fr
  have hK : (A ++ (R ++ B)).flatMap (ids (fN N2) h) = A.flatMap (ids (fN N) h) ++ (R.flatMap (ids (fN N2) h) ++ B.flatMap (ids (fN N) h)) := by
   rw [List.flatMap_append, List.flatMap_append, (flat A fun a ha => .inl ha).1, (flat B fun a ha => .inr ha).1]
  refine ins_fin hnode hk2 hM hr2 hl2 (fr.cong rfl (by rw [hK])) (fr.kept _ _ hat hk0) c2 ?_ ?_ ?_ hXo ?_ ?_
  · have := L.two; simp; omega
  · simp; omega
  · simp; omega
  · intro x hx
    rcases List.mem_append.1 hx with hx | hx
    · exact L.ok x (by rw [f.seps]; exact List.mem_append_left _ hx)
    · rcases List.mem_append.1 hx with hx | hx
      · exact hXp x hx
      · exact L.ok x (by rw [f.seps]; exact List.mem_append_right _ hx)
  · intro x
    have hp := P.elems x
    rw [q3] at hp
    rw [List.flatMap_append, List.flatMap_append, (flat A fun a ha => .inl ha).2, (flat B fun a ha => .inr ha).2, hels, List.mem_append, List.mem_append, hp, List.mem_append, List.mem_append]
    constructor
    · rintro (h | (h | h) | h)
      · exact .inr (.inl h)
      · exact .inl h
      · exact .inr (.inr (.inl h))
      · exact .inr (.inr (.inr h))
    · rintro (h | h | h | h)
      · exact .inr (.inl (.inl h))
      · exact .inl h
      · exact .inr (.inl (.inr h))
      · exact .inr (.inr h)
end Go.Proofs.Ytcmkdoahkncakaa
namespace Go.Proofs.Ytcmkdoahkncakaa
set_option linter.unusedVariables false
end Go.Proofs.Ytcmkdoahkncakaa
namespace Go.Proofs.Ytcmkdoahkncakaa
set_option linter.unusedVariables false
set_option linter.unusedSimpArgs false
variable {F : Nat} [Big F]
theorem node_Copy_eq {n : DNode} (h : chkN n = 0) : node_Copy n = some n := by
 obtain ⟨h1, h2⟩ := small8 h
 have h3 : n.seps.length ≤ 8 ∧ n.tids.length ≤ 8 := by
  rcases chkN_zero.1 h with h | h | h
  · rw [h.2.2.2.1, h.2.2.2.2]; simp
  · rw [h.2.seps, h.2.tids]; simp
  · have := h.2.seps; have := h.2.tids; omega
 unfold node_Copy
 rw [grow_ok (by simp; omega) (by simp; omega), Option.bind_some, grow_ok (by simp; omega) (by simp; omega), Option.bind_some, grow_ok (by simp; omega) (by simp; omega), Option.bind_some, grow_ok (by simp; omega) (by simp; omega), Option.bind_some]
 rfl
theorem allN_of {N : NL} (h : ∀ (j : Nat) (k : Int), N[j]? ≠ some (.inl k)) : allN N = some (fN N) := by
 have e : N = (fN N).map Sum.inr := List.ext_getElem? fun j => by
  rw [List.getElem?_map, fN_get]
  cases hj : N[j]? with
  | none => rfl
  | some x =>
   cases x with
   | inl k => exact absurd hj (h j k)
   | inr n => rfl
 conv => lhs; rw [e]
 exact allN_map _
theorem tree_Copy_eq {t : DTree} (hl : t.nodes.length ≤ 400) (hc : ∀ n ∈ t.nodes, chkN n = 0) : tree_Copy F t = some t := by
 unfold tree_Copy
 rw [loop_run (fun k => ((t.nodes.take k).map (Sum.inr : DNode → Int ⊕ DNode), (k : Int))) t.nodes.length (by simp) (by omega) (fun k hk => ?_) (r := t.nodes.map Sum.inr) ?_, Option.bind_some, allN_map, Option.bind_some]
 · dsimp only
   rw [decide_eq_false (by omega), cond_false, List.take_length]
 · have hg : t.nodes[k]? = some t.nodes[k] := List.getElem?_eq_getElem hk
   have hr : roomN 104 (((t.nodes.take k).map (Sum.inr : DNode → Int ⊕ DNode)).length + 1) = some () := by
    unfold roomN; rw [List.length_map, List.length_take, if_pos ⟨by omega, by unfold maxLen; omega⟩]
   dsimp only
   rw [decide_eq_true (by omega), cond_true, idx_nat', hg, Option.bind_some, node_Copy_eq (hc _ (List.getElem_mem _)), Option.bind_some, hr, Option.bind_some, w64 (by omega) (by omega), List.take_add_one, hg, List.map_append]
   rfl
def nlT (t : DTree) : NL := t.nodes.map Sum.inr
theorem fN_nl (t : DTree) : fN (nlT t) = t.nodes := fN_inr _
theorem nl_get {t : DTree} {j : Nat} {x : Int ⊕ DNode} (h : (nlT t)[j]? = some x) : ∃ n, t.nodes[j]? = some n ∧ x = .inr n := by
 unfold nlT at h
 rw [List.getElem?_map] at h
 obtain ⟨n, hn, rfl⟩ := Option.map_eq_some_iff.1 h
 exact ⟨n, hn, rfl⟩
theorem good_chk {t : DTree} {h : Nat} (g : Good t h) : ChkL (nlT t) := fun n hn => by rw [fN_nl] at hn; exact g.chk n hn
theorem good_sub {t : DTree} {h : Nat} (g : Good t h) : SubT (fN (nlT t)) h t.root (mOf 0 h) topS := by
 rw [fN_nl]; exact (okN_sub g.chk h t.root 0 topS (Int.le_refl _)).1 g.ok
theorem count_le {α : Type} {p : α → Bool} : ∀ {N : List α} {K : List Nat}, K.Nodup → (∀ (j : Nat) (x : α), N[j]? = some x → p x = true → j ∈ K) → N.countP p ≤ K.length
 | [], K, _, _ => Nat.zero_le _
 | a :: N, K, hn, h => by
  have hK : ∀ (j : Nat) (x : α), N[j]? = some x → p x = true → j ∈ (K.filter (fun j => j != 0)).map (· - 1) := fun j x hx hp =>
   List.mem_map.2 ⟨j + 1, List.mem_filter.2 ⟨h (j + 1) x (by simpa using hx) hp, by simp⟩, by simp⟩
  have hnd : ((K.filter (fun j => j != 0)).map (· - 1)).Nodup := by
   unfold List.Nodup
   rw [List.pairwise_map]
   refine ((hn.filter _).imp_of_mem fun {a b} ha hb hab e => hab ?_)
   have h1 := (List.mem_filter.1 ha).2
   have h2 := (List.mem_filter.1 hb).2
   simp only [bne_iff_ne, ne_eq] at h1 h2
   omega
  have ih := count_le hnd hK
  rw [List.length_map] at ih
  rw [List.countP_cons]
  by_cases hp : p a = true
  · have h0 : 0 ∈ K := h 0 a rfl hp
    have hlt : (K.filter (fun j => j != 0)).length < K.length := List.length_filter_lt_length_iff_exists.2 ⟨0, h0, by simp⟩
    rw [if_pos hp]; omega
  · have := List.length_filter_le (fun j => j != 0) K
    rw [if_neg hp]; omega
theorem good_used {t : DTree} {h : Nat} (g : Good t h) : used (nlT t) ≤ (ids t.nodes h t.root).length := by
 refine count_le g.nodup fun j x hx hp => ?_
 obtain ⟨n, hn, rfl⟩ := nl_get hx
 have hlt := (List.getElem?_eq_some_iff.1 hn).1
 exact g.all j hlt (by rw [nd_at hn]; exact usedB_iff.1 hp)
theorem ids_few {ns : List DNode} (hns : ∀ n ∈ ns, chkN n = 0) : ∀ {h : Nat} {i : Int} {s : Span}, SubT ns h i 4 s → 3 * (ids ns h i).length + 1 ≤ (elemsAt ns h i).length := by
 intro h
 induction h with
 | zero =>
  intro i s c
  have := c.2.2.1
  simp only [ids, elemsAt, List.length_singleton]; omega
 | succ h ih =>
  intro i s c
  rw [ids, elemsAt, List.length_cons, List.length_flatMap, List.length_flatMap]
  have key : ∀ l : List Int, (∀ k ∈ l, 3 * (ids ns h k).length + 1 ≤ (elemsAt ns h k).length) → 3 * (l.map fun a => (ids ns h a).length).sum + l.length ≤ (l.map fun a => (elemsAt ns h a).length).sum := by
   intro l
   induction l with
   | nil => intro _; simp
   | cons a l ihl =>
    intro hk
    have := ihl fun k h => hk k (List.mem_cons_of_mem _ h)
    have := hk a List.mem_cons_self
    simp only [List.map_cons, List.sum_cons, List.length_cons]; omega
  have := key (nd ns i).kids fun k hk => by obtain ⟨t, s', x, _⟩ := c.2.2.2.mem k hk; exact ih x.1
  have := c.2.2.1
  omega
theorem good_few {t : DTree} {h : Nat} (g : Good t h) (hl : (elemsAt t.nodes h t.root).length ≤ 400) : (ids t.nodes h t.root).length ≤ 134 ∧ h < 134 := by
 have hh := ids_height g.chk h t.root 0 topS g.ok
 have c := good_sub g
 rw [fN_nl] at c
 have : (ids t.nodes h t.root).length ≤ 134 := by
  cases h with
  | zero => simp [ids]
  | succ h =>
   have key : ∀ l : List Int, (∀ k ∈ l, 3 * (ids t.nodes h k).length + 1 ≤ (elemsAt t.nodes h k).length) → 3 * (l.map fun a => (ids t.nodes h a).length).sum + l.length ≤ (l.map fun a => (elemsAt t.nodes h a).length).sum := by
    intro l
    induction l with
    | nil => intro _; simp
    | cons a l ihl =>
     intro hk
     have := ihl fun k h => hk k (List.mem_cons_of_mem _ h)
     have := hk a List.mem_cons_self
     simp only [List.map_cons, List.sum_cons, List.length_cons]; omega
   have h1 := key (nd t.nodes t.root).kids fun k hk => by obtain ⟨t', s', x, _⟩ := c.2.2.2.mem k hk; exact ids_few g.chk x.1
   have h2 : 2 ≤ (nd t.nodes t.root).kids.length := by have := c.2.2.1; unfold mOf at this; simpa using this
   rw [elemsAt, List.length_flatMap] at hl
   rw [ids, List.length_cons, List.length_flatMap]
   omega
 omega
theorem good_of {N : NL} {h : Nat} {root : Int} (hc : ChkL N) (hl : N.length ≤ 400) (c : SubT (fN N) h root (mOf 0 h) topS) (hn : (ids (fN N) h root).Nodup) (hall : ∀ (j : Nat) (x : Int ⊕ DNode), N[j]? = some x → kindN x ≠ 0 → j ∈ ids (fN N) h root) : Good ⟨root, fN N⟩ h := by
 refine ⟨by show (fN N).length ≤ 400; rw [fN_length]; exact hl, hc, (okN_sub hc h root 0 topS (Int.le_refl _)).2 c, hn, fun i hi hk => ?_⟩
 have hi' : i < (fN N).length := hi
 rw [fN_length] at hi'
 have hg : N[i]? = some N[i] := List.getElem?_eq_getElem hi'
 refine hall i _ hg fun h0 => hk ?_
 have : nd (fN N) (i : Int) = fN1 N[i] := by unfold nd; rw [Int.toNat_natCast, fN_get, hg]; rfl
 rw [this]
 cases hx : N[i] with
 | inl k => rfl
 | inr n => rw [hx] at h0; exact h0
theorem no_holes {t : DTree} {h : Nat} (g : Good t h) {N' : NL} {K : List Nat} {c : Nat} (f : Fr2 (nlT t) N' (ids (fN (nlT t)) h t.root) K c) (hK : ∀ j ∈ K, ∃ n : DNode, N'[j]? = some (.inr n) ∧ n.kind ≠ 0) : ∀ (j : Nat) (k : Int), N'[j]? ≠ some (.inl k) := fun j k hj => by
 have hold : ∀ (j : Nat) (x : Int ⊕ DNode), (nlT t)[j]? = some x → kindN x ≠ 0 → j ∈ ids (fN (nlT t)) h t.root := fun j x hx hk => by
  obtain ⟨n, hn, rfl⟩ := nl_get hx
  rw [fN_nl]
  exact g.all j (List.getElem?_eq_some_iff.1 hn).1 (by rw [nd_at hn]; exact hk)
 by_cases hk : k = 0
 · subst hk
   obtain ⟨n, _, h⟩ := nl_get (f.zero j hj)
   cases h
 · rcases f.all j _ hj hk with h | ⟨h, y, hy, hyk⟩
   · obtain ⟨n, hn, _⟩ := hK j h
     rw [hn] at hj; cases hj
   · exact h (hold j y hy hyk)
theorem all_new {t : DTree} {h : Nat} (g : Good t h) {N' : NL} {K : List Nat} {c : Nat} (f : Fr2 (nlT t) N' (ids (fN (nlT t)) h t.root) K c) : ∀ (j : Nat) (x : Int ⊕ DNode), N'[j]? = some x → kindN x ≠ 0 → j ∈ K := fun j x hx hk => by
 rcases f.all j x hx hk with h | ⟨h, y, hy, hyk⟩
 · exact h
 · obtain ⟨n, hn, rfl⟩ := nl_get hy
   exact absurd (by rw [fN_nl]; exact g.all j (List.getElem?_eq_some_iff.1 hn).1 (by rw [nd_at hn]; exact hyk)) h
theorem addX_good {t : DTree} {h : Nat} {e : DElem} (g : Good t h) (he : chkE e = 0) (hne : ∀ x ∈ elemsAt t.nodes h t.root, spotE x ≠ spotE e) (hl : (elemsAt t.nodes h t.root).length ≤ 400) :
 ∃ (root : Int) (N : NL), addX F e (nlT t) t.root = some (root, N) ∧ allN N = some (fN N) ∧ ∃ h', Good ⟨root, fN N⟩ h' ∧ elemsAt (fN N) h' root = ins1 (elemsAt t.nodes h t.root) e := by
 obtain ⟨f1, f2⟩ := good_few g hl
 have hu := good_used g
 have hF := (inferInstance : Big F).le
 have c := good_sub g
 have hsort := (elems_sorted g.chk h t.root 0 topS g.ok).1
 have hlen : (nlT t).length ≤ 400 := by unfold nlT; rw [List.length_map]; exact g.len
 obtain ⟨N', sp, r, b, hrun, hpost⟩ := ins_code (F := F) he h F (nlT t) t.root (mOf 0 h) topS (by omega) (good_chk g) hlen (by omega) c (by rw [fN_nl]; exact g.nodup) rfl (by rw [fN_nl]; exact hne)
 have sorted : ∀ {ns : List DNode} {h' : Nat} {root : Int}, Good ⟨root, ns⟩ h' → (∀ x, x ∈ elemsAt ns h' root ↔ x = e ∨ x ∈ elemsAt t.nodes h t.root) → elemsAt ns h' root = ins1 (elemsAt t.nodes h t.root) e := fun {ns h' root} gg hm => by
  refine spo_ext (elems_sorted gg.chk h' root 0 topS gg.ok).1 (ins1_sorted hsort e) fun x => ?_
  rw [hm x, mem_ins1]
  constructor
  · rintro (h | h)
    · exact .inl h
    · exact .inr ⟨h, hne x h⟩
  · rintro (h | h)
    · exact .inl h
    · exact .inr h.1
 unfold addX
 rw [hrun, Option.bind_some]
 dsimp only
 rcases hpost with ⟨rfl, P⟩ | ⟨rfl, hsp, P⟩
 · obtain ⟨k, t', e1, e2, x⟩ := P.ch
   obtain rfl : t.root = k := by simpa using e1
   have hK : [t.root].flatMap (ids (fN N') h) = ids (fN N') h t.root := List.flatMap_singleton ..
   have fr := P.fr
   rw [hK] at fr
   have hcap : N'.length ≤ 400 := by have := fr.cap; have := fr.use; omega
   have gg := good_of fr.chk hcap x.1 fr.nodup (all_new g fr)
   refine ⟨t.root, N', rfl, allN_of (no_holes g fr x.1.used), h, gg, sorted gg fun y => ?_⟩
   have := P.elems y
   rw [List.flatMap_singleton, fN_nl] at this
   exact this
 · obtain ⟨k, ks', t', ts', e1, e2, i1, x, k2, t2, e3, e4, y⟩ := P.ch
   obtain ⟨rfl, rfl⟩ : t.root = k ∧ [r] = ks' := by simpa using e1
   obtain rfl : r = k2 := by simpa using e3
   have hK : [t.root, r].flatMap (ids (fN N') h) = ids (fN N') h t.root ++ ids (fN N') h r := by simp
   have fr := P.fr
   rw [hK] at fr
   have hcap : N'.length ≤ 400 := by have := fr.cap; have := fr.use; omega
   have hKu : ∀ q ∈ ids (fN N') h t.root ++ ids (fN N') h r, ∃ n : DNode, N'[q]? = some (.inr n) ∧ n.kind ≠ 0 := fun q hq => by
    rcases List.mem_append.1 hq with hq | hq
    · exact x.1.used q hq
    · exact y.1.used q hq
   obtain ⟨N2, j, hT, tk⟩ := takeX_eq (F := F) (N := N') ⟨2, [], [t.root, r], [sp], [greatR (nd (fN N') t.root), greatR (nd (fN N') r)]⟩ (by omega)
   have cc : Ch (KidP (fN N') h) [sp] topS [t.root, r] [greatR (nd (fN N') t.root), greatR (nd (fN N') r)] := ⟨t.root, [r], _, _, rfl, rfl, i1, ⟨x.1, rfl⟩, r, _, rfl, rfl, ⟨y.1, rfl⟩⟩
   have hck := inner_chk (n := ⟨2, [], [t.root, r], [sp], [greatR (nd (fN N') t.root), greatR (nd (fN N') r)]⟩) rfl (inner_mk fr.chk hcap cc (by simp) (by simp) (List.pairwise_singleton _ _) (by simpa using hsp))
   have fr2 := fr.take tk (two_ne _ _ _ _) hck fun q hq => by obtain ⟨n, hn, hk⟩ := hKu q hq; exact ⟨_, hn, hk⟩
   have hlen2 : N'.length ≤ N2.length := by rcases tk.len with h | ⟨h, _⟩ <;> omega
   have hjK : ∀ q ∈ ids (fN N') h t.root ++ ids (fN N') h r, N2[q]? = N'[q]? := fun q hq => tk.same q fun e => by
    subst e
    obtain ⟨n, hn, hk⟩ := hKu q hq
    exact absurd (tk.free _ hn) hk
   obtain ⟨a1, a2, a3⟩ := kids_agree hlen2 cc fun q hq => hjK q (by rw [hK] at hq; exact hq)
   have hnd : nd (fN N2) (j : Int) = ⟨2, [], [t.root, r], [sp], [greatR (nd (fN N') t.root), greatR (nd (fN N') r)]⟩ := nd_of (by rw [Int.toNat_natCast]; exact tk.at_)
   have hjl : j < N2.length := (List.getElem?_eq_some_iff.1 tk.at_).1
   have hids : ids (fN N2) (h + 1) (j : Int) = j :: (ids (fN N') h t.root ++ ids (fN N') h r) := by
    rw [ids, hnd, Int.toNat_natCast]
    show j :: [t.root, r].flatMap _ = _
    rw [a2, hK]
   have sub : SubT (fN N2) (h + 1) (j : Int) (mOf 0 (h + 1)) topS := ⟨by rw [fN_length]; omega, by rw [hnd], by rw [hnd]; unfold mOf; simp, by rw [hnd]; exact a1⟩
   rw [← hids] at fr2
   have hcap2 : N2.length ≤ 400 := by have := fr2.cap; have := fr2.use; omega
   have gg := good_of fr2.chk hcap2 sub fr2.nodup (all_new g fr2)
   refine ⟨(j : Int), N2, ?_, allN_of (no_holes g fr2 sub.used), h + 1, gg, sorted gg fun z => ?_⟩
   · rw [Bool.not_true, cond_false, x.1.node.1, Option.bind_some, y.1.node.1, Option.bind_some, great_node fr.chk x.1.range, Option.bind_some, great_node fr.chk y.1.range, Option.bind_some, spot_mk, hT, Option.bind_some]
   · have := P.elems z
     rw [fN_nl] at this
     rw [← this, elemsAt, hnd]
     show z ∈ [t.root, r].flatMap _ ↔ _
     rw [a3]
def anyS (e : DElem) (l : List DElem) : Bool := l.any fun x => spotE x == spotE e
theorem anyS_iff {e : DElem} {l : List DElem} : anyS e l = true ↔ ∃ x ∈ l, spotE x = spotE e := by
 unfold anyS; rw [List.any_eq_true]
 constructor
 · rintro ⟨x, hx, h⟩; exact ⟨x, hx, by simpa using h⟩
 · rintro ⟨x, hx, h⟩; exact ⟨x, hx, by simpa using h⟩
theorem anyS_no {e : DElem} {l : List DElem} (h : anyS e l = false) : ∀ x ∈ l, spotE x ≠ spotE e := fun x hx hs => by
 rw [anyS_iff.2 ⟨x, hx, hs⟩] at h; cases h
theorem anyS_append (e : DElem) (a b : List DElem) : anyS e (a ++ b) = (anyS e a || anyS e b) := List.any_append
def preL (ns : List DNode) (m : Nat) (x : Bool × Int × Int) : Prop := kidOk ns m x.2.2 ∧ 0 ≤ x.2.1 ∧ x.2.1 + ((elemsF ns m x.2.2).length : Int) ≤ 100000
def specL (ns : List DNode) (e : DElem) (m : Nat) (x : Bool × Int × Int) : Bool × Int := (x.1 || anyS e (elemsF ns m x.2.2), x.2.1 + ((elemsF ns m x.2.2).length : Int))
theorem flat_take {α β : Type} (f : α → List β) {l : List α} {k : Nat} (hk : k < l.length) : (l.take (k + 1)).flatMap f = (l.take k).flatMap f ++ f l[k] ∧ ((l.take k).flatMap f).length + (f l[k]).length ≤ (l.flatMap f).length := by
 have h1 : (l.take (k + 1)).flatMap f = (l.take k).flatMap f ++ f l[k] := by
  rw [List.take_add_one, List.getElem?_eq_getElem hk, List.flatMap_append]; simp
 refine ⟨h1, ?_⟩
 have h2 : l.flatMap f = (l.take (k + 1)).flatMap f ++ (l.drop (k + 1)).flatMap f := by rw [← List.flatMap_append, List.take_append_drop]
 rw [h2, h1, List.length_append, List.length_append]; omega
theorem grow_look_good {t : DTree} (hs : ∀ n ∈ t.nodes, Small n) {h : Nat} (hg : Good t h) {e : DElem} (he : chkE e = 0) : grow_look F t e = some (((elemsAt t.nodes h t.root).length : Int), anyS e (elemsAt t.nodes h t.root), 0) := by
 have hF := (inferInstance : Big F).le
 have h4 := good_fuel hg
 have hz : chkT F t = 0 := chkT_zero.2 ⟨h, hg⟩
 have hel := elemsF_eq hg.chk h F t.root 0 topS hg.ok (by omega)
 unfold grow_look
 rw [tree_Check_eq t hs, Option.bind_some, bne0_false hz, cond_false, elem_Check_eq, Option.bind_some, bne0_false he, cond_false]
 rw [fix_spec (preL t.nodes) (specL t.nodes e) ?h0 ?hstep F _ ?hpre]
 case h0 =>
  rintro ⟨x1, x2, x3⟩ ⟨⟨h, d, s, hm, _⟩, _⟩
  omega
 case hpre => exact ⟨⟨h, 0, topS, by omega, hg.ok⟩, Int.le_refl _, by dsimp only; rw [hel]; have := good_small hg; omega⟩
 case hstep =>
  rintro m self ih ⟨b, c, i⟩ ⟨hok, hc0, hc1⟩
  obtain ⟨⟨i0, i1⟩, hkids⟩ := hok.kids hg.chk
  dsimp only at hc0 hc1 i0 i1 hkids
  obtain ⟨e8, k8⟩ := small8 (hg.chk _ (nd_mem i0 i1))
  rw [elemsF, List.length_append] at hc1
  dsimp only
  rw [nd_get i0 i1, Option.bind_some]
  rw [loop_run (fun k => (b || anyS e ((nd t.nodes i).elems.take k), c + (k : Int), (k : Int))) (nd t.nodes i).elems.length (r := (b || anyS e (nd t.nodes i).elems, c + ((nd t.nodes i).elems.length : Int))) (by simp [anyS]) (by omega) ?s1 ?e1]
  case s1 =>
   intro k hk
   have hgk : (nd t.nodes i).elems[k]? = some (nd t.nodes i).elems[k] := List.getElem?_eq_getElem hk
   dsimp only
   rw [decide_eq_true (by omega), cond_true, idx_nat', hgk, Option.bind_some, List.take_add_one, hgk, anyS_append, w64 (by omega) (by omega), w64 (by omega) (by omega)]
   have e1 : c + (k : Int) + 1 = c + ((k + 1 : Nat) : Int) := by omega
   have e2 : (k : Int) + 1 = ((k + 1 : Nat) : Int) := by omega
   rw [e1, e2]
   cases hb : (b || anyS e ((nd t.nodes i).elems.take k)) with
   | true => rw [cond_true, Option.bind_some, ← Bool.or_assoc, hb]; rfl
   | false =>
    rw [cond_false, elem_Spot_eq, Option.bind_some, elem_Spot_eq, Option.bind_some, Option.bind_some, ← Bool.or_assoc, hb, Bool.false_or]
    simp [anyS]
  case e1 =>
   dsimp only
   rw [decide_eq_false (by omega), cond_false, List.take_length]
  rw [Option.bind_some]
  dsimp only
  have hlen : ((nd t.nodes i).kids.flatMap (elemsF t.nodes m)).length ≤ 100000 := by omega
  rw [loop_run (fun k => (b || anyS e (nd t.nodes i).elems || anyS e (((nd t.nodes i).kids.take k).flatMap (elemsF t.nodes m)), c + ((nd t.nodes i).elems.length : Int) + ((((nd t.nodes i).kids.take k).flatMap (elemsF t.nodes m)).length : Int), (k : Int))) (nd t.nodes i).kids.length
   (r := (b || anyS e (nd t.nodes i).elems || anyS e ((nd t.nodes i).kids.flatMap (elemsF t.nodes m)), c + ((nd t.nodes i).elems.length : Int) + (((nd t.nodes i).kids.flatMap (elemsF t.nodes m)).length : Int))) (by simp [anyS]) (by omega) ?s2 ?e2]
  case s2 =>
   intro k hk
   have hgk : (nd t.nodes i).kids[k]? = some (nd t.nodes i).kids[k] := List.getElem?_eq_getElem hk
   obtain ⟨q1, q2⟩ := flat_take (elemsF t.nodes m) hk
   dsimp only
   rw [decide_eq_true (by omega), cond_true, idx_nat', hgk, Option.bind_some, ih _ ⟨hkids _ (List.getElem_mem _), by dsimp only; omega, by dsimp only; omega⟩, Option.bind_some]
   unfold specL
   dsimp only
   rw [q1, anyS_append, List.length_append, w64 (by omega) (by omega), Bool.or_assoc, Int.add_assoc (c + _)]
   rfl
  case e2 =>
   dsimp only
   rw [decide_eq_false (by omega), cond_false, List.take_length]
  rw [Option.bind_some]
  dsimp only
  unfold specL
  dsimp only
  rw [elemsF, anyS_append, List.length_append, Bool.or_assoc]
  congr 2; omega
 rw [Option.bind_some]
 dsimp only
 rw [Option.bind_some]
 unfold specL
 dsimp only
 rw [hel, Bool.false_or, Int.zero_add]
theorem grow_look_no {t : DTree} (hs : ∀ n ∈ t.nodes, Small n) {h : Nat} (hg : Good t h) {e : DElem} (he : chkE e ≠ 0) : grow_look F t e = some (0, false, chkE e) := by
 unfold grow_look
 rw [tree_Check_eq t hs, Option.bind_some, bne0_false (chkT_zero.2 ⟨h, hg⟩), cond_false, elem_Check_eq, Option.bind_some, bne0_true he, cond_true]
theorem chk_small {t : DTree} {h : Nat} (g : Good t h) : ∀ n ∈ t.nodes, Small n := fun n hn => small_chk (g.chk n hn)
def newT : DTree := ⟨0, [⟨1, [], [], [], []⟩]⟩
theorem newT_good : Good newT 0 := by
 have hc : chkN ⟨1, [], [], [], []⟩ = 0 := chkN_zero.2 (.inr (.inl ⟨rfl, ⟨rfl, rfl, rfl, Nat.zero_le _, fun e he => (by cases he), List.Pairwise.nil⟩⟩))
 refine ⟨by simp [newT], fun n hn => ?_, ⟨⟨by decide, by simp [newT]⟩, rfl, fun h => absurd h (by decide), fun x hx => (by cases hx)⟩, by simp [newT, ids], fun i hi _ => ?_⟩
 · obtain rfl : n = ⟨1, [], [], [], []⟩ := by simpa [newT] using hn
   exact hc
 · simp [newT, ids] at hi ⊢; exact hi
theorem newT_elems : elemsAt newT.nodes 0 newT.root = [] := rfl
omit [Big F] in
theorem grow_Insert_eq (t : DTree) (e : DElem) : grow_Insert F t e = (grow_look F t e).bind fun r1 => bif (r1.2.2 != 0) then some (DTree.mk 0 [], r1.2.2) else bif r1.2.1 then some (DTree.mk 0 [], 5) else bif decide ((400 : Int) ≤ r1.1) then some (DTree.mk 0 [], 8) else
 (tree_Copy F t).bind fun r2 => (addX F e (nlT r2) r2.root).bind fun z => match z with | (z1, z2) => (allN z2).bind fun l1 => some (DTree.mk z1 l1, 0) := rfl
theorem grow_Insert_good {t : DTree} {h : Nat} {e : DElem} (g : Good t h) (he : chkE e = 0) (hne : anyS e (elemsAt t.nodes h t.root) = false) (hl : (elemsAt t.nodes h t.root).length < 400) :
 ∃ t' h', grow_Insert F t e = some (t', 0) ∧ Good t' h' ∧ elemsAt t'.nodes h' t'.root = ins1 (elemsAt t.nodes h t.root) e := by
 obtain ⟨root, N, h1, h2, h', h3, h4⟩ := addX_good (F := F) g he (anyS_no hne) (by omega)
 refine ⟨⟨root, fN N⟩, h', ?_, h3, h4⟩
 rw [grow_Insert_eq, grow_look_good (chk_small g) g he, Option.bind_some]
 dsimp only
 rw [bne0_false rfl, cond_false, hne, cond_false, decide_eq_false (by omega), cond_false, tree_Copy_eq g.len g.chk, Option.bind_some, h1, Option.bind_some]
 dsimp only
 rw [h2, Option.bind_some]
def zT : DTree := ⟨0, []⟩
theorem grow_Insert_badE {t : DTree} {h : Nat} {e : DElem} (g : Good t h) (he : chkE e ≠ 0) : grow_Insert F t e = some (zT, chkE e) := by
 unfold grow_Insert
 rw [grow_look_no (chk_small g) g he, Option.bind_some]
 dsimp only
 rw [bne0_true he, cond_true]; rfl
theorem grow_Insert_old {t : DTree} {h : Nat} {e : DElem} (g : Good t h) (he : chkE e = 0) (ha : anyS e (elemsAt t.nodes h t.root) = true) : grow_Insert F t e = some (zT, 5) := by
 unfold grow_Insert
 rw [grow_look_good (chk_small g) g he, Option.bind_some]
 dsimp only
 rw [bne0_false rfl, cond_false, ha, cond_true]; rfl
end Go.Proofs.Ytcmkdoahkncakaa
