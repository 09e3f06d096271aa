/- Pure functions, written by walkgen.py out of the Go functions of group Pack. Their conditions: none. -/
import Derived.Test.YtcmkdoahkncakaaPGrowJ
import Derived.Test.YtcmkdoahkncakaaTreeFJ
import Derived.Test.YtcmkdoahkncakaaEqsFJ
import Derived.Test.YtcmkdoahkncakaaMapJ
import Derived.Test.YtcmkdoahkncakaaPLoopJ
import Derived.Test.YtcmkdoahkncakaaPTreeJ
import Derived.Test.YtcmkdoahkncakaaRangeJ
import Derived.Test.YtcmkdoahkncakaaFindFFJ
import Derived.Test.YtcmkdoahkncakaaFindSFJ
import Derived.Test.YtcmkdoahkncakaaFindNFJ
import Derived.Test.YtcmkdoahkncakaaWTreeEmptyFJ
import Derived.Test.YtcmkdoahkncakaaRows
import Derived.Test.YtcmkdoahkncakaaLawJ
namespace Go.Proofs.Ytcmkdoahkncakaa
set_option linter.unusedVariables false
end Go.Proofs.Ytcmkdoahkncakaa
namespace Go.Proofs.Ytcmkdoahkncakaa
set_option linter.unusedVariables false
set_option linter.unusedSimpArgs false
variable {F : Nat} [Big F]
theorem equalF {α : Type} [DecidableEq α] (test : α → α → Bool) (ht : ∀ x y, test x y = true ↔ x = y) (p q : List α) (hp : p.length ≤ 9223372036854775807) :
 (bif ((p.length : Int) != (q.length : Int)) then
  some false
 else
  (iter (σ := Int) (ρ := (Unit) ⊕ Bool) (fun x1 =>
   bif decide (x1 < (p.length : Int)) then
    (idx p x1).bind fun e1 =>
    (idx q x1).bind fun e2 =>
    bif (!(test e1 e2)) then
     some (.inr (.inr false))
    else
     some (.inl (IntKind.i64.wrap (x1 + 1)))
    else
     some (.inr (.inl ()))) F 0).bind fun z => match z with
  | .inl _ =>
   some true
  | .inr q => some q) = some (decide (p = q)) := by
 by_cases hl : p.length = q.length
 · rw [show ((p.length : Int) != (q.length : Int)) = false by rw [bne_eq_false_iff_eq]; omega, cond_false]
   obtain ⟨W, hW⟩ : ∃ W : Nat → α → Option (Unit ⊕ Bool), ∀ k e, W k e = if q[k]? = some e then none else some (Sum.inr false) := ⟨_, fun _ _ => rfl⟩
   rw [loop_find p W (Sum.inl ()) hp rfl (fun k e hk _ => ?_) (by simp)]
   · by_cases he : p = q
     · subst he
       rw [find_none.2 fun k e hk => by rw [hW, if_pos hk], decide_eq_true rfl]; rfl
     · rw [decide_eq_false he]
       cases hf : p.zipIdx.findSome? fun a => W a.2 a.1 with
       | some r =>
        obtain ⟨k, e, _, hr⟩ := find_some hf
        rw [hW] at hr
        split at hr
        · cases hr
        · obtain rfl := Option.some.inj hr; rfl
       | none =>
        exfalso
        apply he
        rw [find_none] at hf
        apply List.ext_getElem?
        intro k
        cases hk : p[k]? with
        | none => rw [List.getElem?_eq_none_iff] at hk; rw [List.getElem?_eq_none (by omega)]
        | some e =>
         have := hf k e hk
         rw [hW] at this
         split at this
         · rename_i h; exact h.symm
         · cases this
   · have hkl := (List.getElem?_eq_some_iff.1 hk).1
     have hq : q[k]? = some (q[k]'(by omega)) := List.getElem?_eq_getElem (by omega)
     rw [decide_eq_true (by omega), cond_true, idx_nat', idx_nat', hk, hq, Option.bind_some, Option.bind_some, w64 (by omega) (by omega), hW]
     by_cases he : q[k]'(by omega) = e
     · rw [if_pos (by rw [hq, he]), (ht _ _).2 he.symm]; rfl
     · have hf : test e (q[k]'(by omega)) = false := by
        cases hx : test e (q[k]'(by omega))
        · rfl
        · exact absurd ((ht _ _).1 hx).symm he
       rw [if_neg (by rw [hq]; simpa using he), hf]; rfl
 · rw [show ((p.length : Int) != (q.length : Int)) = true by rw [bne_iff_ne]; omega, cond_true, decide_eq_false (fun e => hl (by rw [e]))]
theorem eqElem (p q : List DElem) (hp : p.length ≤ 9223372036854775807) : slices_Equal_Elem F p q = some (decide (p = q)) := equalF (fun x y => x == y) (fun x y => by simp) p q hp
end Go.Proofs.Ytcmkdoahkncakaa
namespace Go.Proofs.Ytcmkdoahkncakaa
set_option linter.unusedVariables false
set_option linter.unusedSimpArgs false
variable {F : Nat} [Big F]
theorem build_ok {l : List DElem} (h : ¬ 400 < l.length) (hb : badR l = none) : ofR l = (buildT l, 0) := by
 unfold ofR; rw [if_neg h, hb]
theorem of_eq {l : List DElem} (hl : l.length ≤ 400) (ho : ∀ e ∈ l, chkE e = 0) (hp : l.Pairwise SpO) : annalkeep_of F l = some (buildT l) := by
 unfold annalkeep_of
 rw [build_Of_eq, Option.bind_some, build_ok (by omega) (badR_none.2 ⟨ho, hp⟩)]
theorem good_smalls {t : DTree} {h : Nat} (hg : Good t h) : ∀ n ∈ t.nodes, Small n := fun n hn => small_chk (hg.chk n hn)
theorem equal_refl {l : List DElem} (h : l.length ≤ 9223372036854775807) : slices_Equal_Elem F l l = some true := by rw [eqElem l l h]; simp
end Go.Proofs.Ytcmkdoahkncakaa
namespace Go.Proofs.Ytcmkdoahkncakaa
set_option linter.unusedVariables false
set_option linter.unusedSimpArgs false
section walks
variable {τ α β : Type} {F : Nat}
def runX (t : τ → α → τ × Nat) : List α → τ → τ × Nat
 | [], a => (a, 0)
 | e :: l, a => if (t a e).2 = 0 then runX t l (t a e).1 else t a e
theorem runX_append (t : τ → α → τ × Nat) : ∀ (l m : List α) (a : τ), runX t (l ++ m) a = if (runX t l a).2 = 0 then runX t m (runX t l a).1 else runX t l a
 | [], m, a => by simp [runX]
 | e :: l, m, a => by
  rw [List.cons_append, runX, runX]
  by_cases h : (t a e).2 = 0
  · rw [if_pos h, if_pos h, runX_append t l m]
  · rw [if_neg h, if_neg h, if_neg h]
theorem runX_filter (t : τ → α → τ × Nat) (p : α → Bool) : ∀ (l : List α) (a : τ), runX (fun st e => if p e then t st e else (st, 0)) l a = runX t (l.filter p) a
 | [], a => rfl
 | e :: l, a => by
  rw [runX]
  by_cases h : p e = true
  · rw [if_pos h, List.filter_cons_of_pos h, runX]
    by_cases h0 : (t a e).2 = 0
    · rw [if_pos h0, if_pos h0, runX_filter t p l]
    · rw [if_neg h0, if_neg h0]
  · rw [if_neg h, if_pos rfl, List.filter_cons_of_neg h, runX_filter t p l]
theorem runX_flatMap (t : τ → α → τ × Nat) (g : β → List α) : ∀ (l : List β) (a : τ), runX (fun st k => runX t (g k) st) l a = runX t (l.flatMap g) a
 | [], a => rfl
 | b :: l, a => by
  rw [runX, List.flatMap_cons, runX_append, runX_flatMap t g l]
theorem runX_len (t : τ → α → τ × Nat) (len : τ → Nat) (ht : ∀ a e, len (t a e).1 ≤ len a + 1) : ∀ (l : List α) (a : τ), len (runX t l a).1 ≤ len a + l.length
 | [], a => Nat.le_refl _
 | e :: l, a => by
  rw [runX, List.length_cons]
  have h1 := ht a e
  by_cases h : (t a e).2 = 0
  · rw [if_pos h]
    have := runX_len t len ht l (t a e).1
    omega
  · rw [if_neg h]; omega
theorem iter_runX {S R : Type} [Big F] {f : S → Option (S ⊕ R)} (t : τ → α → τ × Nat) (l : List α) (enc : τ → Int → S) (o0 : τ → R) (o1 : τ → Nat → R) (a : τ) (hn : l.length ≤ 9223372036854775807) {s : S} (h0 : s = enc a 0)
 (hs : ∀ (k : Nat) (e : α) (st : τ), l[k]? = some e → runX t (l.take k) a = (st, 0) → f (enc st (k : Int)) = some (natCase (t st e).2 (.inl (enc (t st e).1 ((k : Int) + 1))) (fun n => .inr (o1 (t st e).1 n))))
 (he : ∀ st, runX t l a = (st, 0) → f (enc st (l.length : Int)) = some (.inr (o0 st))) :
 iter f F s = some (natCase (runX t l a).2 (o0 (runX t l a).1) (fun n => o1 (runX t l a).1 n)) := by
 subst h0
 have key : ∀ (m k N : Nat) (st : τ), k + m = l.length → m < N → runX t (l.take k) a = (st, 0) → iter f N (enc st (k : Int)) = some (natCase (runX t l a).2 (o0 (runX t l a).1) (fun n => o1 (runX t l a).1 n)) := by
  intro m
  induction m with
  | zero =>
   intro k N st hk hN hr
   obtain ⟨N, rfl⟩ : ∃ M, N = M + 1 := ⟨N - 1, by omega⟩
   rw [List.take_of_length_le (by omega)] at hr
   rw [iter, show k = l.length by omega, he st hr, hr]; rfl
  | succ m ih =>
   intro k N st hk hN hr
   obtain ⟨N, rfl⟩ : ∃ M, N = M + 1 := ⟨N - 1, by omega⟩
   have hkl : k < l.length := by omega
   have hg := List.getElem?_eq_getElem hkl
   have hsplit : runX t l a = runX t (l[k] :: l.drop (k + 1)) st := by
    have h1 := runX_append t (l.take k) (l.drop k) a
    rw [List.take_append_drop, hr, if_pos rfl, List.drop_eq_getElem_cons hkl] at h1
    exact h1
   rw [iter, hs k l[k] st hg hr]
   rw [runX] at hsplit
   cases hz : (t st l[k]).2 with
   | zero =>
    rw [natCase_zero]
    refine ih (k + 1) N _ (by omega) (by omega) ?_
    rw [List.take_add_one, hg, runX_append, hr, if_pos rfl]
    show runX t [l[k]] st = _
    rw [runX, if_pos hz]; rfl
   | succ n =>
    rw [if_neg (by omega)] at hsplit
    rw [natCase_succ, hsplit, hz, natCase_succ]
 exact key l.length 0 F a (by omega) (lt_big hn) rfl
end walks
def geB (s : DSpot) (e : DElem) : Bool := decide (0 ≤ cmpS (spotE e) s)
def fromF (ns : List DNode) (s : DSpot) : Nat → Int → List DElem
 | 0, _ => []
 | m + 1, i => (nd ns i).elems.filter (geB s) ++ (if (nd ns i).kind = 1 then [] else ((nd ns i).kids.drop (wayR (nd ns i).seps s)).flatMap (fromF ns s m))
theorem fromF_sub (ns : List DNode) (s : DSpot) : ∀ (m : Nat) (i : Int), (fromF ns s m i).Sublist (elemsF ns m i) := by
 intro m
 induction m with
 | zero => intro i; exact List.Sublist.refl _
 | succ m ih =>
  intro i
  rw [fromF, elemsF]
  refine List.Sublist.append List.filter_sublist ?_
  split
  · exact List.nil_sublist _
  · have h1 : ∀ l : List Int, (l.flatMap (fromF ns s m)).Sublist (l.flatMap (elemsF ns m)) := by
     intro l
     induction l with
     | nil => exact List.Sublist.refl _
     | cons a l ihl => rw [List.flatMap_cons, List.flatMap_cons]; exact (ih a).append ihl
    refine (h1 _).trans ?_
    have h2 : ∀ (l : List Int) (k : Nat), ((l.drop k).flatMap (elemsF ns m)).Sublist (l.flatMap (elemsF ns m)) := by
     intro l k
     conv => rhs; rw [← List.take_append_drop k l, List.flatMap_append]
     exact List.sublist_append_right _ _
    exact h2 _ _
theorem filter_flatMap' {α β : Type} (p : β → Bool) (f : α → List β) : ∀ l : List α, (l.flatMap f).filter p = l.flatMap fun a => (f a).filter p
 | [] => rfl
 | a :: l => by rw [List.flatMap_cons, List.flatMap_cons, List.filter_append, filter_flatMap' p f l]
theorem fromF_eq {ns : List DNode} (hns : ∀ n ∈ ns, chkN n = 0) (s : DSpot) : ∀ (h m : Nat) (i d : Int) (sp : Span), okN ns h i d sp → h < m → fromF ns s m i = (elemsAt ns h i).filter (geB s) := by
 intro h
 induction h with
 | zero =>
  intro m i d sp hok hm
  obtain ⟨m, rfl⟩ : ∃ q, m = q + 1 := ⟨m - 1, by omega⟩
  rw [fromF, elemsAt, if_pos hok.2.1, List.append_nil]
 | succ h ih =>
  intro m i d sp hok hm
  obtain ⟨m, rfl⟩ : ∃ q, m = q + 1 := ⟨m - 1, by omega⟩
  have hI := (inner_of hns hok.1 hok.2.1).2
  rw [fromF, elemsAt, if_neg hok.2.1.2, hI.elems, List.filter_nil, List.nil_append, filter_flatMap']
  have hk : ∀ k ∈ (nd ns i).kids, fromF ns s m k = (elemsAt ns h k).filter (geB s) := fun k hk => by
   obtain ⟨q, hq⟩ := List.mem_iff_getElem?.1 hk
   exact ih m k _ _ (hok.2.2.2 (k, q) (zip_mem hq)).1 (by omega)
  have hcong : ∀ l : List Int, (∀ k ∈ l, k ∈ (nd ns i).kids) → l.flatMap (fromF ns s m) = l.flatMap fun k => (elemsAt ns h k).filter (geB s) := by
   intro l
   induction l with
   | nil => intro _; rfl
   | cons a l ihl => intro hl; rw [List.flatMap_cons, List.flatMap_cons, hk a (hl a List.mem_cons_self), ihl fun k hk => hl k (List.mem_cons_of_mem _ hk)]
  rw [hcong _ fun k hk => List.mem_of_mem_drop hk]
  have hnil : ((nd ns i).kids.take (wayR (nd ns i).seps s)).flatMap (fun k => (elemsAt ns h k).filter (geB s)) = [] := by
   rw [List.flatMap_eq_nil_iff]
   intro k hk
   rw [List.mem_take_iff_getElem] at hk
   obtain ⟨q, hq, rfl⟩ := hk
   rw [List.filter_eq_nil_iff]
   intro e he
   have hqk : (nd ns i).kids[q]? = some (nd ns i).kids[q] := List.getElem?_eq_getElem (by omega)
   have h1 := (hok.2.2.2 (_, q) (zip_mem hqk)).1
   have h2 := ((elems_sorted hns h _ _ _ h1).2 e he).1
   have hw := wayR_le (nd ns i).seps s
   have hx : (nd ns i).seps[q]? = some (nd ns i).seps[q] := List.getElem?_eq_getElem (by omega)
   have h3 := kidSp_hi hx h2
   have h4 := (wayR_at (nd ns i).seps s).1 q _ (by omega) hx
   have h5 := cmpS_lt_le h3 h4
   unfold geB
   rw [decide_eq_true_eq]
   omega
  conv => rhs; rw [← List.take_append_drop (wayR (nd ns i).seps s) (nd ns i).kids, List.flatMap_append, hnil, List.nil_append]
def preX {τ : Type} (ns : List DNode) (s : DSpot) (len : τ → Nat) (m : Nat) (x : τ × Int) : Prop := kidOk ns m x.2 ∧ len x.1 + (fromF ns s m x.2).length ≤ 100000
theorem preX_root {τ : Type} {t : DTree} {h : Nat} (hg : Good t h) (s : DSpot) (len : τ → Nat) (a : τ) (ha : len a = 0) {F : Nat} [Big F] : preX t.nodes s len F (a, t.root) := by
 have hF := (inferInstance : Big F).le
 have h4 := good_fuel hg
 refine ⟨⟨h, 0, topS, by omega, hg.ok⟩, ?_⟩
 dsimp only
 have h1 := (fromF_sub t.nodes s F t.root).length_le
 rw [elemsF_eq hg.chk h F t.root 0 topS hg.ok (by omega)] at h1
 have := good_small hg
 omega
theorem from_root {t : DTree} {h : Nat} (hg : Good t h) (s : DSpot) {F : Nat} [Big F] : fromF t.nodes s F t.root = (elemsAt t.nodes h t.root).filter (geB s) := by
 have hF := (inferInstance : Big F).le
 have h4 := good_fuel hg
 exact fromF_eq hg.chk s h F t.root 0 topS hg.ok (by omega)
theorem preX_elems {τ : Type} {ns : List DNode} {s : DSpot} {len : τ → Nat} {m : Nat} {a : τ} {i : Int} (h : preX ns s len (m + 1) (a, i)) {t : τ → DElem → τ × Nat} (ht : ∀ a e, len (t a e).1 ≤ len a + 1) {k : Nat} {e : DElem} (hk : (nd ns i).elems[k]? = some e) {st : τ}
 (hr : runX (fun st e => if geB s e then t st e else (st, 0)) ((nd ns i).elems.take k) a = (st, 0)) : len st ≤ 100000 := by
 rw [runX_filter] at hr
 have h1 := runX_len t len ht (((nd ns i).elems.take k).filter (geB s)) a
 rw [hr] at h1
 have h2 := h.2
 dsimp only at h1 h2
 rw [fromF, List.length_append] at h2
 have h3 := (List.Sublist.filter (geB s) (List.take_sublist k (nd ns i).elems)).length_le
 omega
theorem preX_kid {τ : Type} {ns : List DNode} (hns : ∀ n ∈ ns, chkN n = 0) {s : DSpot} {len : τ → Nat} {m : Nat} {a b : τ} {i : Int} (h : preX ns s len (m + 1) (a, i)) (h1 : (nd ns i).kind ≠ 1) {t : τ → DElem → τ × Nat} (ht : ∀ a e, len (t a e).1 ≤ len a + 1)
 (hb : runX t ((nd ns i).elems.filter (geB s)) a = (b, 0)) {k : Nat} {e : Int} (hk : ((nd ns i).kids.drop (wayR (nd ns i).seps s))[k]? = some e) {st : τ}
 (hr : runX (fun st k => runX t (fromF ns s m k) st) (((nd ns i).kids.drop (wayR (nd ns i).seps s)).take k) b = (st, 0)) : preX ns s len m (st, e) := by
 have hkids := (h.1.kids hns).2
 refine ⟨hkids e (List.mem_of_mem_drop (List.mem_of_getElem? hk)), ?_⟩
 rw [runX_flatMap] at hr
 have q1 := runX_len t len ht ((nd ns i).elems.filter (geB s)) a
 rw [hb] at q1
 have q2 := runX_len t len ht ((((nd ns i).kids.drop (wayR (nd ns i).seps s)).take k).flatMap (fromF ns s m)) b
 rw [hr] at q2
 have h2 := h.2
 dsimp only at q1 q2 h2 ⊢
 rw [fromF, if_neg h1, List.length_append] at h2
 obtain ⟨hkl, rfl⟩ := List.getElem?_eq_some_iff.1 hk
 have h3 : (((nd ns i).kids.drop (wayR (nd ns i).seps s)).flatMap (fromF ns s m)).length = ((((nd ns i).kids.drop (wayR (nd ns i).seps s)).take k).flatMap (fromF ns s m)).length + (((((nd ns i).kids.drop (wayR (nd ns i).seps s)).drop k)).flatMap (fromF ns s m)).length := by
  rw [← List.length_append, ← List.flatMap_append, List.take_append_drop]
 rw [List.drop_eq_getElem_cons hkl, List.flatMap_cons, List.length_append] at h3
 omega
theorem way_le {ns : List DNode} {i : Int} (hI : Inner (nd ns i)) (s : DSpot) : wayR (nd ns i).seps s ≤ (nd ns i).kids.length := by
 have := wayR_le (nd ns i).seps s
 have := hI.seps
 omega
end Go.Proofs.Ytcmkdoahkncakaa
namespace Go.Proofs.Ytcmkdoahkncakaa
set_option linter.unusedVariables false
set_option linter.unusedSimpArgs false
variable {F : Nat} [Big F]
def stepF (n : Int) (st : List DElem) (e : DElem) : List DElem × Nat := if (st.length : Int) = n then (st, 1) else (st ++ [e], 0)
theorem stepF_len (n : Int) (st : List DElem) (e : DElem) : (stepF n st e).1.length ≤ st.length + 1 := by
 unfold stepF; split <;> simp
theorem runF_eq (n : Nat) : ∀ (l : List DElem) (a : List DElem), a.length ≤ n → (runX (stepF (n : Int)) l a).1 = a ++ l.take (n - a.length) := by
 intro l
 induction l with
 | nil => intro a _; simp [runX]
 | cons e l ih =>
  intro a ha
  rw [runX]
  unfold stepF
  by_cases h : (a.length : Int) = (n : Int)
  · rw [if_pos h, if_neg (by simp), show n - a.length = 0 by omega]; simp
  · rw [if_neg h, if_pos rfl]
    show (runX (stepF (n : Int)) l (a ++ [e])).1 = _
    rw [ih _ (by rw [List.length_append, List.length_singleton]; omega), List.append_assoc, List.length_append, List.length_singleton]
    obtain ⟨q, hq⟩ : ∃ q, n - a.length = q + 1 := ⟨n - a.length - 1, by omega⟩
    rw [hq, show n - (a.length + 1) = q by omega]; rfl
theorem find_From_good {t : DTree} (hs : ∀ n ∈ t.nodes, Small n) {h : Nat} (hg : Good t h) (s : DSpot) (n : Nat) : find_From F t s (n : Int) = some (((elemsAt t.nodes h t.root).filter (geB s)).take n, 0) := by
 have hz : chkT F t = 0 := chkT_zero.2 ⟨h, hg⟩
 unfold find_From
 rw [tree_Check_eq t hs, Option.bind_some, bne0_false hz, cond_false, show decide ((n : Int) < 0) = false from decide_eq_false (by omega), cond_false]
 rw [fix_spec (preX t.nodes s List.length) (fun m x => runX (stepF n) (fromF t.nodes s m x.2) x.1) ?h0 ?hstep F _ (preX_root hg s List.length [] rfl)]
 case h0 =>
  rintro ⟨x1, x2⟩ ⟨⟨h, d, s, hm, _⟩, _⟩
  omega
 case hstep =>
  rintro m self ih ⟨x1, x2⟩ hpre
  obtain ⟨⟨h0, h1⟩, hkids⟩ := hpre.1.kids hg.chk
  dsimp only at h0 h1 hkids ⊢
  have hmem := nd_mem h0 h1
  obtain ⟨h8, h8'⟩ := small8 (hg.chk _ hmem)
  rw [nd_get h0 h1, Option.bind_some]
  rw [iter_runX (fun st e => if geB s e then stepF n st e else (st, 0)) (nd t.nodes x2).elems (fun st k => (st, k)) Sum.inl (fun st n => Sum.inr (st, n + 1)) x1 (by omega) rfl ?hs ?he]
  case hs =>
   intro k e st hk hr
   have hkl := (List.getElem?_eq_some_iff.1 hk).1
   have hlen := preX_elems hpre (stepF_len n) hk hr
   dsimp only
   rw [decide_eq_true (by omega), cond_true, idx_nat', hk, Option.bind_some, elem_Spot_eq, Option.bind_some, key_CmpSpot_eq, Option.bind_some, w64 (by omega) (by omega)]
   unfold geB
   by_cases hge : 0 ≤ cmpS (spotE e) s
   · rw [decide_eq_true hge, cond_true, if_pos rfl]
     unfold stepF
     by_cases hn : (st.length : Int) = (n : Int)
     · rw [if_pos hn, show ((st.length : Int) == (n : Int)) = true by simpa using hn]; rfl
     · rw [if_neg hn, show ((st.length : Int) == (n : Int)) = false by simpa using hn, cond_false, grow_ok (by rw [List.length_singleton]; omega) (by rw [List.length_singleton]; omega)]; rfl
   · rw [decide_eq_false hge, cond_false, if_neg (by simp)]; rfl
  case he =>
   intro st hr
   dsimp only
   rw [decide_eq_false (by omega)]; rfl
  rw [Option.bind_some, runX_filter, fromF]
  cases hb : runX (stepF n) ((nd t.nodes x2).elems.filter (geB s)) x1 with
  | mk b c =>
   rw [runX_append, hb]
   cases c with
   | succ c => rfl
   | zero =>
    dsimp only [natCase]
    rw [if_pos rfl]
    by_cases hk : (nd t.nodes x2).kind = 1
    · rw [if_pos hk, show ((nd t.nodes x2).kind == 1) = true by simpa using hk]; rfl
    · rw [if_neg hk, show ((nd t.nodes x2).kind == 1) = false by simpa using hk, cond_false]
      have hw : wayR (nd t.nodes x2).seps s ≤ (nd t.nodes x2).kids.length := by
       rcases chkN_zero.1 (hg.chk _ hmem) with q | q | q
       · rw [q.2.2.2.1]; exact Nat.zero_le _
       · exact absurd q.1 hk
       · exact way_le q.2 s
      rw [node_Way_eq _ s (hs _ hmem), Option.bind_some, lslice_from hw, Option.bind_some]
      rw [iter_runX (fun st k => runX (stepF n) (fromF t.nodes s m k) st) ((nd t.nodes x2).kids.drop (wayR (nd t.nodes x2).seps s)) (fun st k => (st, k)) Sum.inl (fun st n => Sum.inr (st, n + 1)) b (by rw [List.length_drop]; omega) rfl ?hs2 ?he2]
      case hs2 =>
       intro k e st hk2 hr
       have hkl := (List.getElem?_eq_some_iff.1 hk2).1
       rw [List.length_drop] at hkl
       dsimp only
       rw [decide_eq_true (by rw [List.length_drop]; omega), cond_true, idx_nat', hk2, Option.bind_some, ih _ (preX_kid hg.chk hpre hk (stepF_len n) hb hk2 hr), Option.bind_some, w64 (by omega) (by omega)]
       dsimp only
       cases hc : runX (stepF n) (fromF t.nodes s m e) st with
       | mk y c => cases c <;> rfl
      case he2 =>
       intro st hr
       dsimp only
       rw [decide_eq_false (by omega)]; rfl
      rw [Option.bind_some, runX_flatMap]
      cases hc : runX (stepF n) (((nd t.nodes x2).kids.drop (wayR (nd t.nodes x2).seps s)).flatMap (fromF t.nodes s m)) b with
      | mk y c => cases c <;> rfl
 rw [Option.bind_some]
 dsimp only
 rw [from_root hg s]
 have := runF_eq n ((elemsAt t.nodes h t.root).filter (geB s)) [] (Nat.zero_le _)
 cases hr : runX (stepF (n : Int)) ((elemsAt t.nodes h t.root).filter (geB s)) [] with
 | mk y c =>
  rw [hr] at this
  dsimp only at this
  subst this
  cases c <;> rfl
end Go.Proofs.Ytcmkdoahkncakaa
namespace Go.Proofs.Ytcmkdoahkncakaa
set_option linter.unusedVariables false
set_option linter.unusedSimpArgs false
variable {F : Nat} [Big F]
abbrev FlatE := Int × Int × Int × Int × Int × ByteArray
def flatE (e : DElem) : FlatE := (e.key.pfs, e.key.obj, e.key.off, e.made, e.gone, e.val)
def stepS (s : DSpot) (st : FlatE) (e : DElem) : FlatE × Nat := if spotE e = s then (flatE e, 1) else (st, 2)
def spotR (l : List DElem) (s : DSpot) : DElem × Int := match l.head? with
 | none => (zeroE, 4)
 | some e => if spotE e = s then (e, 0) else (zeroE, 4)
theorem find_Spot_good {t : DTree} (hs : ∀ n ∈ t.nodes, Small n) {h : Nat} (hg : Good t h) (s : DSpot) : find_Spot F t s = some (spotR ((elemsAt t.nodes h t.root).filter (geB s)) s) := by
 have hz : chkT F t = 0 := chkT_zero.2 ⟨h, hg⟩
 have hlen : ∀ (a : FlatE) (e : DElem), (fun _ : FlatE => 0) (stepS s a e).1 ≤ (fun _ : FlatE => 0) a + 1 := fun _ _ => Nat.zero_le _
 unfold find_Spot
 rw [tree_Check_eq t hs, Option.bind_some, bne0_false hz, cond_false]
 rw [fix_spec (σ := Int × Int × Int × Int × Int × ByteArray × Int) (fun m x => match x with | (x1, x2, x3, x4, x5, x6, x7) => preX t.nodes s (fun _ : FlatE => 0) m ((x1, x2, x3, x4, x5, x6), x7))
  (fun m x => match x with | (x1, x2, x3, x4, x5, x6, x7) => let r := runX (stepS s) (fromF t.nodes s m x7) (x1, x2, x3, x4, x5, x6); (r.2, r.1)) ?h0 ?hstep F _ (preX_root hg s (fun _ => 0) _ rfl)]
 case h0 =>
  rintro ⟨x1, x2, x3, x4, x5, x6, x7⟩ ⟨⟨h, d, s, hm, _⟩, _⟩
  omega
 case hstep =>
  rintro m self ih ⟨x1, x2, x3, x4, x5, x6, x7⟩ hpre
  dsimp only at hpre
  obtain ⟨⟨h0, h1⟩, hkids⟩ := hpre.1.kids hg.chk
  dsimp only at h0 h1 hkids ⊢
  have hmem := nd_mem h0 h1
  obtain ⟨h8, h8'⟩ := small8 (hg.chk _ hmem)
  rw [nd_get h0 h1, Option.bind_some]
  rw [iter_runX (fun st e => if geB s e then stepS s st e else (st, 0)) (nd t.nodes x7).elems (fun (st : FlatE) k => (st.1, st.2.1, st.2.2.1, st.2.2.2.1, st.2.2.2.2.1, st.2.2.2.2.2, k)) Sum.inl (fun st n => Sum.inr (n + 1, st)) (x1, x2, x3, x4, x5, x6) (by omega) rfl ?hs ?he]
  case hs =>
   rintro k e ⟨y1, y2, y3, y4, y5, y6⟩ hk hr
   have hkl := (List.getElem?_eq_some_iff.1 hk).1
   dsimp only
   rw [decide_eq_true (by omega), cond_true, idx_nat', hk, Option.bind_some, elem_Spot_eq, Option.bind_some, key_CmpSpot_eq, Option.bind_some, w64 (by omega) (by omega)]
   unfold geB
   by_cases hge : 0 ≤ cmpS (spotE e) s
   · rw [decide_eq_true hge, cond_true, if_pos rfl, Option.bind_some]
     unfold stepS
     by_cases hn : spotE e = s
     · rw [if_pos hn, show (spotE e == s) = true by simpa using hn]; rfl
     · rw [if_neg hn, show (spotE e == s) = false by simpa using hn]; rfl
   · rw [decide_eq_false hge, cond_false, if_neg (by simp)]; rfl
  case he =>
   rintro ⟨y1, y2, y3, y4, y5, y6⟩ hr
   dsimp only
   rw [decide_eq_false (by omega)]; rfl
  rw [Option.bind_some, runX_filter, fromF]
  cases hb : runX (stepS s) ((nd t.nodes x7).elems.filter (geB s)) (x1, x2, x3, x4, x5, x6) with
  | mk b c =>
   rw [runX_append, hb]
   cases c with
   | succ c => rfl
   | zero =>
    obtain ⟨b1, b2, b3, b4, b5, b6⟩ := b
    dsimp only [natCase]
    rw [if_pos rfl]
    by_cases hk : (nd t.nodes x7).kind = 1
    · rw [if_pos hk, show ((nd t.nodes x7).kind == 1) = true by simpa using hk]; rfl
    · rw [if_neg hk, show ((nd t.nodes x7).kind == 1) = false by simpa using hk, cond_false]
      have hw : wayR (nd t.nodes x7).seps s ≤ (nd t.nodes x7).kids.length := by
       rcases chkN_zero.1 (hg.chk _ hmem) with q | q | q
       · rw [q.2.2.2.1]; exact Nat.zero_le _
       · exact absurd q.1 hk
       · exact way_le q.2 s
      rw [node_Way_eq _ s (hs _ hmem), Option.bind_some, lslice_from hw, Option.bind_some]
      rw [iter_runX (fun st k => runX (stepS s) (fromF t.nodes s m k) st) ((nd t.nodes x7).kids.drop (wayR (nd t.nodes x7).seps s)) (fun (st : FlatE) k => (st.1, st.2.1, st.2.2.1, st.2.2.2.1, st.2.2.2.2.1, st.2.2.2.2.2, k)) Sum.inl (fun st n => Sum.inr (n + 1, st)) (b1, b2, b3, b4, b5, b6) (by rw [List.length_drop]; omega) rfl ?hs2 ?he2]
      case hs2 =>
       rintro k e ⟨y1, y2, y3, y4, y5, y6⟩ hk2 hr
       have hkl := (List.getElem?_eq_some_iff.1 hk2).1
       rw [List.length_drop] at hkl
       dsimp only
       rw [decide_eq_true (by rw [List.length_drop]; omega), cond_true, idx_nat', hk2, Option.bind_some, ih (y1, y2, y3, y4, y5, y6, e) (preX_kid hg.chk hpre hk hlen hb hk2 hr), Option.bind_some, w64 (by omega) (by omega)]
       dsimp only
       cases hc : runX (stepS s) (fromF t.nodes s m e) (y1, y2, y3, y4, y5, y6) with
       | mk y c => cases c <;> rfl
      case he2 =>
       rintro ⟨y1, y2, y3, y4, y5, y6⟩ hr
       dsimp only
       rw [decide_eq_false (by omega)]; rfl
      rw [Option.bind_some, runX_flatMap]
      cases hc : runX (stepS s) (((nd t.nodes x7).kids.drop (wayR (nd t.nodes x7).seps s)).flatMap (fromF t.nodes s m)) (b1, b2, b3, b4, b5, b6) with
      | mk y c => cases c <;> rfl
 rw [Option.bind_some]
 dsimp only
 rw [from_root hg s]
 generalize (elemsAt t.nodes h t.root).filter (geB s) = l
 unfold spotR
 cases l with
 | nil => rfl
 | cons e l =>
  rw [runX]
  unfold stepS
  dsimp only [List.head?]
  by_cases hn : spotE e = s
  · rw [if_pos hn, if_pos hn, if_neg (by simp)]; rfl
  · rw [if_neg hn, if_neg hn, if_neg (by simp)]; rfl
end Go.Proofs.Ytcmkdoahkncakaa
namespace Go.Proofs.Ytcmkdoahkncakaa
set_option linter.unusedVariables false
set_option linter.unusedSimpArgs false
variable {F : Nat} [Big F]
def tidAt (n : DNode) (k : Nat) : Int := (n.tids[k]?).getD 0
def newF (ns : List DNode) (t : Int) : Nat → Int → List DElem
 | 0, _ => []
 | m + 1, i => ((nd ns i).elems.filter fun e => decide (t < lastE e)) ++ (nd ns i).kids.zipIdx.flatMap fun p => if t < tidAt (nd ns i) p.2 then newF ns t m p.1 else []
def lookF (ns : List DNode) (t : Int) : Nat → Int → Nat
 | 0, _ => 0
 | m + 1, i => 1 + ((nd ns i).kids.zipIdx.map fun p => if t < tidAt (nd ns i) p.2 then lookF ns t m p.1 else 0).sum
theorem sum_le {α : Type} {f g : α → Nat} : ∀ {l : List α}, (∀ a ∈ l, f a ≤ g a) → (l.map f).sum ≤ (l.map g).sum
 | [], _ => Nat.le_refl _
 | a :: l, h => by
  have h1 := sum_le (l := l) fun b hb => h b (List.mem_cons_of_mem _ hb)
  have h2 := h a List.mem_cons_self
  rw [List.map_cons, List.map_cons, List.sum_cons, List.sum_cons]; omega
theorem zip_sum (f : Int → Nat) : ∀ (l : List Int) (n : Nat), ((l.zipIdx n).map fun p => f p.1).sum = (l.map f).sum
 | [], _ => rfl
 | a :: l, n => by rw [List.zipIdx_cons, List.map_cons, List.map_cons, List.sum_cons, List.sum_cons, zip_sum f l]
theorem lookF_ids {ns : List DNode} (hns : ∀ n ∈ ns, chkN n = 0) (t : Int) : ∀ (m h : Nat) (i d : Int) (s : Span), okN ns h i d s → lookF ns t m i ≤ (ids ns h i).length := by
 intro m
 induction m with
 | zero => intro h i d s _; exact Nat.zero_le _
 | succ m ih =>
  intro h i d s hok
  rw [lookF]
  cases h with
  | zero => rw [(leaf_of hns hok.1 hok.2.1).kids]; simp [ids]
  | succ h =>
   rw [ids, List.length_cons, List.length_flatMap, ← zip_sum (fun k => (ids ns h k).length) (nd ns i).kids 0]
   have : ((nd ns i).kids.zipIdx.map fun p => if t < tidAt (nd ns i) p.2 then lookF ns t m p.1 else 0).sum ≤ ((nd ns i).kids.zipIdx.map fun p => (ids ns h p.1).length).sum := sum_le fun p hp => by
    by_cases hq : t < tidAt (nd ns i) p.2
    · rw [if_pos hq]; exact ih h p.1 _ _ (hok.2.2.2 p hp).1
    · rw [if_neg hq]; exact Nat.zero_le _
   omega
theorem great_all {ns : List DNode} (hns : ∀ n ∈ ns, chkN n = 0) : ∀ (h : Nat) (i d : Int) (s : Span), okN ns h i d s → ∀ e ∈ elemsAt ns h i, lastE e ≤ greatR (nd ns i) := by
 intro h
 induction h with
 | zero => exact fun i d s hok e he => (great_spec (nd ns i)).1 e he
 | succ h ih =>
  intro i d s hok e he
  obtain ⟨k, hk, he⟩ := List.mem_flatMap.1 he
  obtain ⟨q, hq⟩ := List.mem_iff_getElem?.1 hk
  obtain ⟨k1, k2, k3⟩ := hok.2.2.2 (k, q) (zip_mem hq)
  have h1 := ih k _ _ k1 e he
  have hI := (inner_of hns hok.1 hok.2.1).2
  have hql := (List.getElem?_eq_some_iff.1 hq).1
  have hlt : q < (nd ns i).tids.length := by rw [hI.tids]; exact hql
  dsimp only at k3
  rw [List.getElem?_eq_getElem hlt, Option.getD_some] at k3
  have := (great_spec (nd ns i)).2.1 _ (List.getElem_mem hlt)
  omega
theorem newF_eq {ns : List DNode} (hns : ∀ n ∈ ns, chkN n = 0) (t : Int) : ∀ (h m : Nat) (i d : Int) (s : Span), okN ns h i d s → h < m → newF ns t m i = (elemsAt ns h i).filter fun e => decide (t < lastE e) := by
 intro h
 induction h with
 | zero =>
  intro m i d s hok hm
  obtain ⟨m, rfl⟩ : ∃ q, m = q + 1 := ⟨m - 1, by omega⟩
  rw [newF, elemsAt, (leaf_of hns hok.1 hok.2.1).kids]; simp
 | succ h ih =>
  intro m i d s hok hm
  obtain ⟨m, rfl⟩ : ∃ q, m = q + 1 := ⟨m - 1, by omega⟩
  rw [newF, elemsAt, (inner_of hns hok.1 hok.2.1).2.elems, List.filter_nil, List.nil_append, filter_flatMap']
  have hk : ∀ p ∈ (nd ns i).kids.zipIdx, (if t < tidAt (nd ns i) p.2 then newF ns t m p.1 else []) = (elemsAt ns h p.1).filter fun e => decide (t < lastE e) := fun p hp => by
   obtain ⟨k1, k2, k3⟩ := hok.2.2.2 p hp
   by_cases hq : t < tidAt (nd ns i) p.2
   · rw [if_pos hq]; exact ih m p.1 _ _ k1 (by omega)
   · rw [if_neg hq]
     symm
     rw [List.filter_eq_nil_iff]
     intro e he
     have := great_all hns h p.1 _ _ k1 e he
     unfold tidAt at hq
     rw [decide_eq_true_eq]; omega
  have hz : ∀ (l : List Int) (n : Nat), (∀ p ∈ l.zipIdx n, (if t < tidAt (nd ns i) p.2 then newF ns t m p.1 else []) = (elemsAt ns h p.1).filter fun e => decide (t < lastE e)) →
   ((l.zipIdx n).flatMap fun p => if t < tidAt (nd ns i) p.2 then newF ns t m p.1 else []) = l.flatMap fun k => (elemsAt ns h k).filter fun e => decide (t < lastE e) := by
   intro l
   induction l with
   | nil => intro n _; rfl
   | cons a l ihl =>
    intro n hl
    rw [List.zipIdx_cons] at hl ⊢
    rw [List.flatMap_cons, List.flatMap_cons, hl (a, n) List.mem_cons_self, ihl (n + 1) fun p hp => hl p (List.mem_cons_of_mem _ hp)]
  exact hz _ 0 hk
theorem newF_len {ns : List DNode} (t : Int) : ∀ (m : Nat) (i : Int), (newF ns t m i).length ≤ (elemsF ns m i).length := by
 intro m
 induction m with
 | zero => intro i; exact Nat.le_refl _
 | succ m ih =>
  intro i
  rw [newF, elemsF, List.length_append, List.length_append]
  have h1 := List.length_filter_le (fun e : DElem => decide (t < lastE e)) (nd ns i).elems
  have h2 : ∀ (l : List Int) (n : Nat), ((l.zipIdx n).flatMap fun p => if t < tidAt (nd ns i) p.2 then newF ns t m p.1 else []).length ≤ (l.flatMap (elemsF ns m)).length := by
   intro l
   induction l with
   | nil => intro n; exact Nat.le_refl _
   | cons a l ihl =>
    intro n
    rw [List.zipIdx_cons, List.flatMap_cons, List.flatMap_cons, List.length_append, List.length_append]
    have h3 := ihl (n + 1)
    have h4 := ih a
    dsimp only
    split
    · omega
    · rw [List.length_nil]; omega
  have := h2 (nd ns i).kids 0
  omega
def preN (ns : List DNode) (t : Int) (m : Nat) (x : List DElem × Int × Int) : Prop := kidOk ns m x.2.2 ∧ x.1.length + (newF ns t m x.2.2).length ≤ 100000 ∧ 0 ≤ x.2.1 ∧ x.2.1 + (lookF ns t m x.2.2 : Int) ≤ 100000
def lookR (F : Nat) (t : DTree) (tid : Int) : Nat := if tid < greatR (nd t.nodes t.root) then lookF t.nodes tid F t.root else 0
theorem find_Since_good {t : DTree} (hs : ∀ n ∈ t.nodes, Small n) {h : Nat} (hg : Good t h) (tid : Int) : find_Since F t tid = some ((elemsAt t.nodes h t.root).filter (fun e => decide (tid < lastE e)), (lookR F t tid : Int), 0) := by
 have hF := (inferInstance : Big F).le
 have h4 := good_fuel hg
 have hz : chkT F t = 0 := chkT_zero.2 ⟨h, hg⟩
 have hr : 0 ≤ t.root ∧ t.root < (t.nodes.length : Int) := by have := hg.ok; cases h <;> exact this.1
 have hnew := newF_eq hg.chk tid h F t.root 0 topS hg.ok (by omega)
 have hlook := lookF_ids hg.chk tid F h t.root 0 topS hg.ok
 have hids := ids_length hg.ok hg.nodup
 have hlen := hg.len
 unfold find_Since lookR
 rw [tree_Check_eq t hs, Option.bind_some, bne0_false hz, cond_false, nd_get hr.1 hr.2, Option.bind_some, node_Greatest_eq _ (hs _ (nd_mem hr.1 hr.2)), Option.bind_some]
 by_cases hgr : tid < greatR (nd t.nodes t.root)
 rotate_left
 · rw [decide_eq_false hgr, cond_false, if_neg hgr, Option.bind_some]
   have : (elemsAt t.nodes h t.root).filter (fun e => decide (tid < lastE e)) = [] := by
    rw [List.filter_eq_nil_iff]
    intro e he
    have := great_all hg.chk h t.root 0 topS hg.ok e he
    rw [decide_eq_true_eq]; omega
   rw [this]; rfl
 rw [decide_eq_true hgr, cond_true, if_pos hgr]
 rw [fix_spec (preN t.nodes tid) (fun m x => (x.1 ++ newF t.nodes tid m x.2.2, x.2.1 + (lookF t.nodes tid m x.2.2 : Int))) ?h0 ?hstep F _ ?hpre]
 case h0 =>
  rintro ⟨x1, x2, x3⟩ ⟨⟨h, d, s, hm, _⟩, _⟩
  omega
 case hpre =>
  refine ⟨⟨h, 0, topS, by omega, hg.ok⟩, ?_, Int.le_refl _, ?_⟩
  · have h1 := newF_len (ns := t.nodes) tid F t.root
    rw [elemsF_eq hg.chk h F t.root 0 topS hg.ok (by omega)] at h1
    have := good_small hg
    simp only [List.length_nil]; omega
  · show (0 : Int) + (lookF t.nodes tid F t.root : Int) ≤ _; omega
 case hstep =>
  rintro m self ih ⟨x1, x2, x3⟩ ⟨hok, hlen1, hn0, hn1⟩
  obtain ⟨⟨h0, h1⟩, hkids⟩ := hok.kids hg.chk
  dsimp only at h0 h1 hkids hlen1 hn0 hn1 ⊢
  have hmem := nd_mem h0 h1
  obtain ⟨h8, h8'⟩ := small8 (hg.chk _ hmem)
  have htids : (nd t.nodes x3).tids.length = (nd t.nodes x3).kids.length := by
   rcases chkN_zero.1 (hg.chk _ hmem) with q | q | q
   · rw [q.2.2.1, q.2.2.2.2]
   · rw [q.2.kids, q.2.tids]
   · exact q.2.tids
  rw [newF, List.length_append] at hlen1
  rw [lookF] at hn1
  rw [nd_get h0 h1, Option.bind_some]
  have hff : ∀ (l : List DElem) (a : List DElem), l.foldl (fun a e => if decide (tid < lastE e) = true then a ++ [e] else a) a = a ++ l.filter fun e => decide (tid < lastE e) := fun l a => foldl_filter _ l a
  rw [loop_fold (nd t.nodes x3).elems (fun a e => if decide (tid < lastE e) = true then a ++ [e] else a) x1 (r := x1 ++ (nd t.nodes x3).elems.filter fun e => decide (tid < lastE e)) (by omega) rfl ?hs ?he]
  case hs =>
   intro k e hk
   have hkl := (List.getElem?_eq_some_iff.1 hk).1
   have hsub := (List.Sublist.filter (fun e : DElem => decide (tid < lastE e)) (List.take_sublist k (nd t.nodes x3).elems)).length_le
   dsimp only
   rw [hff, show decide ((k : Int) < ((nd t.nodes x3).elems.length : Int)) = true from decide_eq_true (by omega), cond_true, idx_nat', hk, Option.bind_some, elem_Last_eq, Option.bind_some, w64 (by omega) (by omega)]
   by_cases hq : tid < lastE e
   · rw [decide_eq_true hq, cond_true, if_pos rfl, grow_ok (by rw [List.length_append, List.length_singleton]; omega) (by rw [List.length_append, List.length_singleton]; omega)]; rfl
   · rw [decide_eq_false hq, cond_false, if_neg (by simp)]; rfl
  case he =>
   dsimp only
   rw [hff, show decide (((nd t.nodes x3).elems.length : Int) < ((nd t.nodes x3).elems.length : Int)) = false from decide_eq_false (by omega)]; rfl
  rw [Option.bind_some]
  rw [w64 (n := x2 + 1) (by omega) (by omega)]
  rw [loop_run (fun k => ((x1 ++ (nd t.nodes x3).elems.filter fun e => decide (tid < lastE e)) ++ ((nd t.nodes x3).kids.zipIdx.take k).flatMap (fun p => if tid < tidAt (nd t.nodes x3) p.2 then newF t.nodes tid m p.1 else []),
   x2 + 1 + ((((nd t.nodes x3).kids.zipIdx.take k).map fun p => if tid < tidAt (nd t.nodes x3) p.2 then lookF t.nodes tid m p.1 else 0).sum : Int), (k : Int))) (nd t.nodes x3).kids.length
   (s := ((x1 ++ (nd t.nodes x3).elems.filter fun e => decide (tid < lastE e)), x2 + 1, (0 : Int)))
   (r := (x1 ++ newF t.nodes tid (m + 1) x3, x2 + (lookF t.nodes tid (m + 1) x3 : Int))) (by simp) (by omega) ?hs2 ?he2]
  · rfl
  case he2 =>
   dsimp only
   rw [show decide (((nd t.nodes x3).kids.length : Int) < ((nd t.nodes x3).kids.length : Int)) = false from decide_eq_false (by omega), cond_false, List.take_of_length_le (by simp), newF, lookF, List.append_assoc]
   congr 3
   push_cast; omega
  case hs2 =>
   intro k hk
   have hz : (nd t.nodes x3).kids.zipIdx[k]? = some ((nd t.nodes x3).kids[k], k) := by rw [List.getElem?_zipIdx, List.getElem?_eq_getElem hk]; simp
   have hkk : (nd t.nodes x3).kids[k]? = some (nd t.nodes x3).kids[k] := List.getElem?_eq_getElem hk
   have htt : (nd t.nodes x3).tids[k]? = some (nd t.nodes x3).tids[k] := List.getElem?_eq_getElem (by omega)
   have hta : tidAt (nd t.nodes x3) k = (nd t.nodes x3).tids[k] := by unfold tidAt; rw [htt]; rfl
   have hkok := hkids _ (List.mem_of_getElem? hkk)
   have b1 : (((nd t.nodes x3).kids.zipIdx.take (k + 1)).flatMap (fun p => if tid < tidAt (nd t.nodes x3) p.2 then newF t.nodes tid m p.1 else [])).length ≤ ((nd t.nodes x3).kids.zipIdx.flatMap (fun p => if tid < tidAt (nd t.nodes x3) p.2 then newF t.nodes tid m p.1 else [])).length := by
    conv => rhs; rw [← List.take_append_drop (k + 1) (nd t.nodes x3).kids.zipIdx, List.flatMap_append, List.length_append]
    omega
   have b2 : (((nd t.nodes x3).kids.zipIdx.take (k + 1)).map fun p => if tid < tidAt (nd t.nodes x3) p.2 then lookF t.nodes tid m p.1 else 0).sum ≤ ((nd t.nodes x3).kids.zipIdx.map fun p => if tid < tidAt (nd t.nodes x3) p.2 then lookF t.nodes tid m p.1 else 0).sum := by
    conv => rhs; rw [← List.take_append_drop (k + 1) (nd t.nodes x3).kids.zipIdx, List.map_append, List.sum_append]
    omega
   rw [take_snoc hz, List.flatMap_append, List.length_append, List.flatMap_singleton] at b1
   rw [take_snoc hz, List.map_append, List.sum_append, List.map_cons, List.map_nil, List.sum_cons, List.sum_nil] at b2
   dsimp only at b1 b2 ⊢
   rw [take_snoc hz, List.flatMap_append, List.flatMap_singleton, List.map_append, List.sum_append, List.map_cons, List.map_nil, List.sum_cons, List.sum_nil]
   generalize ((nd t.nodes x3).kids.zipIdx.take k).flatMap (fun p => if tid < tidAt (nd t.nodes x3) p.2 then newF t.nodes tid m p.1 else []) = A at *
   generalize (((nd t.nodes x3).kids.zipIdx.take k).map fun p => if tid < tidAt (nd t.nodes x3) p.2 then lookF t.nodes tid m p.1 else 0).sum = B at *
   rw [show decide ((k : Int) < ((nd t.nodes x3).kids.length : Int)) = true from decide_eq_true (by omega), cond_true, idx_nat', hkk, Option.bind_some, idx_nat', htt, Option.bind_some, ← hta, w64 (n := (k : Int) + 1) (by omega) (by omega)]
   by_cases hq : tid < tidAt (nd t.nodes x3) k
   · rw [if_pos hq] at b1
     rw [if_pos hq] at b2
     rw [decide_eq_true hq, cond_true, if_pos hq, if_pos hq, ih _ ⟨hkok, by dsimp only; rw [List.length_append, List.length_append]; omega, by dsimp only; omega, by dsimp only; omega⟩, Option.bind_some]
     dsimp only
     rw [Option.bind_some, List.append_assoc]
     congr 4
     push_cast; omega
   · rw [decide_eq_false hq, cond_false, if_neg hq, if_neg hq, List.append_nil]
     rfl
 rw [Option.bind_some]
 dsimp only
 rw [hnew, List.nil_append, Option.bind_some, Int.zero_add]
end Go.Proofs.Ytcmkdoahkncakaa
namespace Go.Proofs.Ytcmkdoahkncakaa
set_option linter.unusedVariables false
set_option linter.unusedSimpArgs false
theorem annalkeep_TreeEmpty_true (F : Nat) [Big F] (s : DSpot) (x : DElem) (oks : okSpot s) (okx : okElem x) : annalkeep_TreeEmpty F s x = some true := by
 have g := newT_good
 have hs := good_smalls g
 have hn : (tree_New : Option DTree) = some newT := rfl
 have hlook : lookR F newT 0 = 0 := by
  unfold lookR
  rw [if_neg]
  show ¬ ((0 : Int) < greatR (nd newT.nodes 0))
  decide
 unfold annalkeep_TreeEmpty
 rw [hn, Option.bind_some, tree_All_good hs g, newT_elems, Option.bind_some, show find_From F newT s 9 = some ([], 0) from (find_From_good hs g s 9).trans (by rw [newT_elems]; rfl), Option.bind_some, find_Since_good hs g 0, newT_elems, hlook, Option.bind_some, find_Spot_good hs g s, newT_elems]
 dsimp only
 rw [show ((0 : Int) != 0 || ((0 : Int) != 0 || ((0 : Int) != 0 || (IntKind.i64.wrap (IntKind.i64.wrap (IntKind.i64.wrap ((([] : List DElem).length : Int) + (([] : List DElem).length : Int)) + ((([] : List DElem).filter fun e => decide ((0 : Int) < lastE e)).length : Int)) + ((0 : Nat) : Int)) != 0)))) = false from rfl, cond_false, Option.bind_some]
 rw [show ((spotR (([] : List DElem).filter (geB s)) s).2 != 4) = false from rfl, cond_false]
 by_cases hx : chkE x = 0
 rotate_left
 · rw [grow_Insert_badE g hx, Option.bind_some]
   dsimp only
   rw [bne0_true hx, cond_true, elem_Check_eq, Option.bind_some]
   simp
 have ha : anyS x (elemsAt newT.nodes 0 newT.root) = false := rfl
 obtain ⟨t, h, a1, a2, a3⟩ := grow_Insert_good (F := F) g hx ha (by rw [newT_elems]; simp)
 have a4 : ins1 (elemsAt newT.nodes 0 newT.root) x = [x] := rfl
 rw [a4] at a3
 rw [a1, Option.bind_some]
 dsimp only
 rw [bne0_false rfl, cond_false, tree_All_good (good_smalls a2) a2, a3, Option.bind_some, grow_Insert_old a2 hx (by rw [a3]; simp [anyS]), Option.bind_some]
 dsimp only
 rw [show ((0 : Int) == 0) = true from rfl, cond_true, show ((5 : Int) == 5) = true from rfl, cond_true, equal_refl (by simp)]
 rfl
end Go.Proofs.Ytcmkdoahkncakaa
namespace Go.Proofs.Ytcmkdoahkncakaa
open Go.RowKit
theorem prog_own : ownKnob Try.prog.godebug = none := by kernel_rfl
theorem prog_laid : laidOutB Try.prog = true := by kernel_rfl
theorem op26 : Opens Try.prog 26 eKey okKey := opens_key Try.underlying26 (by kernel_rfl) rfl (by kernel_rfl) (opens_int Try.underlying3) rfl (by kernel_rfl) (opens_int Try.underlying3) rfl (by kernel_rfl) (opens_int Try.underlying3)
theorem op28 : Opens Try.prog 28 eElem okElem := opens_elem Try.underlying28 (by kernel_rfl) rfl (by kernel_rfl) op26 rfl (by kernel_rfl) (opens_int Try.underlying3) rfl (by kernel_rfl) (opens_int Try.underlying3) rfl (by kernel_rfl) (opens_str Try.underlying9)
theorem op43 : Opens Try.prog 43 eSpot okSpot := opens_spot Try.underlying43 (by kernel_rfl) rfl (by kernel_rfl) op26 rfl (by kernel_rfl) (opens_int Try.underlying3)
set_option maxRecDepth 100000
def orderSigns : List Char := [.ofNat 104, .ofNat 97, .ofNat 114, .ofNat 110, .ofNat 101, .ofNat 115, .ofNat 115, .ofNat 32, .ofNat 99, .ofNat 101, .ofNat 99, .ofNat 102, .ofNat 54, .ofNat 48, .ofNat 102, .ofNat 51, .ofNat 55, .ofNat 50, .ofNat 101, .ofNat 51, .ofNat 100, .ofNat 49, .ofNat 52, .ofNat 50, .ofNat 50, .ofNat 55, .ofNat 56, .ofNat 55, .ofNat 56, .ofNat 48, .ofNat 54, .ofNat 102, .ofNat 57, .ofNat 56, .ofNat 52, .ofNat 57, .ofNat 100, .ofNat 99, .ofNat 53, .ofNat 97, .ofNat 51, .ofNat 52, .ofNat 52, .ofNat 55, .ofNat 100, .ofNat 55, .ofNat 51, .ofNat 53, .ofNat 56, .ofNat 54, .ofNat 102, .ofNat 102, .ofNat 51, .ofNat 49, .ofNat 50, .ofNat 100, .ofNat 57, .ofNat 100, .ofNat 102, .ofNat 55, .ofNat 50, .ofNat 99, .ofNat 53, .ofNat 101, .ofNat 54, .ofNat 50, .ofNat 55, .ofNat 100, .ofNat 54, .ofNat 55, .ofNat 55, .ofNat 101, .ofNat 32, .ofNat 99, .ofNat 117, .ofNat 116, .ofNat 32, .ofNat 97, .ofNat 116, .ofNat 32, .ofNat 97, .ofNat 110, .ofNat 110, .ofNat 97, .ofNat 108, .ofNat 105, .ofNat 115, .ofNat 116, .ofNat 47, .ofNat 97, .ofNat 110, .ofNat 110, .ofNat 97, .ofNat 108, .ofNat 107, .ofNat 101, .ofNat 101, .ofNat 112, .ofNat 46, .ofNat 71, .ofNat 114, .ofNat 111, .ofNat 119, .ofNat 83, .ofNat 101, .ofNat 116, .ofNat 115, .ofNat 32, .ofNat 97, .ofNat 110, .ofNat 110, .ofNat 97, .ofNat 108, .ofNat 105, .ofNat 115, .ofNat 116, .ofNat 47, .ofNat 97, .ofNat 110, .ofNat 110, .ofNat 97, .ofNat 108, .ofNat 107, .ofNat 101, .ofNat 101, .ofNat 112, .ofNat 46, .ofNat 83, .ofNat 104, .ofNat 114, .ofNat 105, .ofNat 110, .ofNat 107, .ofNat 83, .ofNat 111, .ofNat 109, .ofNat 101, .ofNat 32, .ofNat 97, .ofNat 110, .ofNat 110, .ofNat 97, .ofNat 108, .ofNat 105, .ofNat 115, .ofNat 116, .ofNat 47, .ofNat 97, .ofNat 110, .ofNat 110, .ofNat 97, .ofNat 108, .ofNat 107, .ofNat 101, .ofNat 101, .ofNat 112, .ofNat 46, .ofNat 83, .ofNat 104, .ofNat 114, .ofNat 105, .ofNat 110, .ofNat 107, .ofNat 65, .ofNat 108, .ofNat 108, .ofNat 32, .ofNat 97, .ofNat 110, .ofNat 110, .ofNat 97, .ofNat 108, .ofNat 105, .ofNat 115, .ofNat 116, .ofNat 47, .ofNat 97, .ofNat 110, .ofNat 110, .ofNat 97, .ofNat 108, .ofNat 107, .ofNat 101, .ofNat 101, .ofNat 112, .ofNat 46, .ofNat 80, .ofNat 114, .ofNat 117, .ofNat 110, .ofNat 101, .ofNat 83, .ofNat 116, .ofNat 101, .ofNat 112, .ofNat 115, .ofNat 32, .ofNat 97, .ofNat 110, .ofNat 110, .ofNat 97, .ofNat 108, .ofNat 105, .ofNat 115, .ofNat 116, .ofNat 47, .ofNat 97, .ofNat 110, .ofNat 110, .ofNat 97, .ofNat 108, .ofNat 107, .ofNat 101, .ofNat 101, .ofNat 112, .ofNat 46, .ofNat 71, .ofNat 114, .ofNat 111, .ofNat 119, .ofNat 79, .ofNat 114, .ofNat 100, .ofNat 101, .ofNat 114, .ofNat 115, .ofNat 32, .ofNat 97, .ofNat 110, .ofNat 110, .ofNat 97, .ofNat 108, .ofNat 105, .ofNat 115, .ofNat 116, .ofNat 47, .ofNat 97, .ofNat 110, .ofNat 110, .ofNat 97, .ofNat 108, .ofNat 107, .ofNat 101, .ofNat 101, .ofNat 112, .ofNat 46, .ofNat 84, .ofNat 114, .ofNat 101, .ofNat 101, .ofNat 69, .ofNat 109, .ofNat 112, .ofNat 116, .ofNat 121, .ofNat 32, .ofNat 97, .ofNat 110, .ofNat 110, .ofNat 97, .ofNat 108, .ofNat 105, .ofNat 115, .ofNat 116, .ofNat 47, .ofNat 97, .ofNat 110, .ofNat 110, .ofNat 97, .ofNat 108, .ofNat 107, .ofNat 101, .ofNat 101, .ofNat 112, .ofNat 46, .ofNat 71, .ofNat 114, .ofNat 111, .ofNat 119, .ofNat 77, .ofNat 97, .ofNat 110, .ofNat 121, .ofNat 32, .ofNat 97, .ofNat 110, .ofNat 110, .ofNat 97, .ofNat 108, .ofNat 105, .ofNat 115, .ofNat 116, .ofNat 47, .ofNat 97, .ofNat 110, .ofNat 110, .ofNat 97, .ofNat 108, .ofNat 107, .ofNat 101, .ofNat 101, .ofNat 112, .ofNat 46, .ofNat 84, .ofNat 114, .ofNat 101, .ofNat 101, .ofNat 70, .ofNat 117, .ofNat 108, .ofNat 108, .ofNat 32, .ofNat 97, .ofNat 110, .ofNat 110, .ofNat 97, .ofNat 108, .ofNat 105, .ofNat 115, .ofNat 116, .ofNat 47, .ofNat 97, .ofNat 110, .ofNat 110, .ofNat 97, .ofNat 108, .ofNat 107, .ofNat 101, .ofNat 101, .ofNat 112, .ofNat 46, .ofNat 71, .ofNat 114, .ofNat 111, .ofNat 119, .ofNat 83, .ofNat 104, .ofNat 114, .ofNat 105, .ofNat 110, .ofNat 107, .ofNat 115, .ofNat 32, .ofNat 97, .ofNat 110, .ofNat 110, .ofNat 97, .ofNat 108, .ofNat 105, .ofNat 115, .ofNat 116, .ofNat 47, .ofNat 97, .ofNat 110, .ofNat 110, .ofNat 97, .ofNat 108, .ofNat 107, .ofNat 101, .ofNat 101, .ofNat 112, .ofNat 46, .ofNat 87, .ofNat 114, .ofNat 105, .ofNat 116, .ofNat 101, .ofNat 80, .ofNat 97, .ofNat 115, .ofNat 116, .ofNat 32, .ofNat 97, .ofNat 110, .ofNat 110, .ofNat 97, .ofNat 108, .ofNat 105, .ofNat 115, .ofNat 116, .ofNat 47, .ofNat 97, .ofNat 110, .ofNat 110, .ofNat 97, .ofNat 108, .ofNat 107, .ofNat 101, .ofNat 101, .ofNat 112, .ofNat 46, .ofNat 87, .ofNat 114, .ofNat 105, .ofNat 116, .ofNat 101, .ofNat 83, .ofNat 97, .ofNat 109, .ofNat 101]
theorem order_text : Try.prog.initOrder = "harness cecf60f372e3d1422787806f9849dc5a3447d73586ff312d9df72c5e627d677e cut at annalist/annalkeep.GrowSets annalist/annalkeep.ShrinkSome annalist/annalkeep.ShrinkAll annalist/annalkeep.PruneSteps annalist/annalkeep.GrowOrders annalist/annalkeep.TreeEmpty annalist/annalkeep.GrowMany annalist/annalkeep.TreeFull annalist/annalkeep.GrowShrinks annalist/annalkeep.WritePast annalist/annalkeep.WriteSame" := by kernel_rfl
theorem order_signs : ("harness cecf60f372e3d1422787806f9849dc5a3447d73586ff312d9df72c5e627d677e cut at annalist/annalkeep.GrowSets annalist/annalkeep.ShrinkSome annalist/annalkeep.ShrinkAll annalist/annalkeep.PruneSteps annalist/annalkeep.GrowOrders annalist/annalkeep.TreeEmpty annalist/annalkeep.GrowMany annalist/annalkeep.TreeFull annalist/annalkeep.GrowShrinks annalist/annalkeep.WritePast annalist/annalkeep.WriteSame" : String) = String.ofList orderSigns := by kernel_rfl
theorem prog_order : Try.prog.initOrder.toList = orderSigns := by rw [order_text, order_signs]; exact String.toList_ofList
theorem make_of (P : Program) (h : P.initOrder.toList = orderSigns) : P.make = some .cut := by
 unfold Program.make Program.headLifts
 rw [h]
 kernel_rfl
theorem lifts_of (P : Program) (h : P.initOrder.toList = orderSigns) : P.liftsFinal = false := by
 unfold Program.liftsFinal Program.headLifts
 rw [h]
 kernel_rfl
theorem enter_of (P : Program) (h : P.initOrder.toList = orderSigns) (h1 : P.laysLater = false) (h2 : P.bearsReflect = false) (h3 : P.doorFits [] = true) : P.mayEnter = true := by
 unfold Program.mayEnter
 rw [h, h1, h2]
 have e : (stripLifts liftWords (behindMainWord (wordsSigns orderSigns))).1 = [] := by kernel_rfl
 have e0 : behindMainWord (wordsSigns orderSigns) = "cut".toList :: (behindMainWord (wordsSigns orderSigns)).tail := by kernel_rfl
 rw [e0] at e ⊢
 dsimp only
 rw [e, h3]
 clear h h1 h2 h3
 change _ = true
 kernel_rfl
theorem prog_make : Try.prog.make = some .cut := make_of _ prog_order
theorem prog_lifts : Try.prog.liftsFinal = false := lifts_of _ prog_order
theorem prog_enter : Try.prog.mayEnter = true := enter_of _ prog_order (by kernel_rfl) (by kernel_rfl) (by kernel_rfl)
end Go.Proofs.Ytcmkdoahkncakaa
