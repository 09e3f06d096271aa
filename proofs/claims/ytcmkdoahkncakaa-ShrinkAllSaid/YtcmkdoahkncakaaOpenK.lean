/- Pure functions, written by walkgen.py out of the Go functions of group Look. Their conditions: none. -/
import Derived.Test.YtcmkdoahkncakaaTreeFK
import Derived.Test.YtcmkdoahkncakaaRecK
import Derived.Test.YtcmkdoahkncakaaMapK
import Derived.Test.YtcmkdoahkncakaaCpFK
import Derived.Test.YtcmkdoahkncakaaTreeOK
import Derived.Test.YtcmkdoahkncakaaInsK
import Derived.Test.YtcmkdoahkncakaaPRemK
import Derived.Test.YtcmkdoahkncakaaPTreeK
import Derived.Test.YtcmkdoahkncakaaRangeK
import Derived.Test.YtcmkdoahkncakaaFindSFK
import Derived.Test.YtcmkdoahkncakaaShrFK
import Derived.Test.YtcmkdoahkncakaaEqsFK
import Derived.Test.YtcmkdoahkncakaaPLoopK
import Derived.Test.YtcmkdoahkncakaaPackFK
import Derived.Test.YtcmkdoahkncakaaWShrinkAllFK
import Derived.Test.YtcmkdoahkncakaaRows
import Derived.Test.YtcmkdoahkncakaaLawK
namespace Go.Proofs.Ytcmkdoahkncakaa
set_option linter.unusedVariables false
end Go.Proofs.Ytcmkdoahkncakaa
namespace Go.Proofs.Ytcmkdoahkncakaa
set_option linter.unusedVariables false
end Go.Proofs.Ytcmkdoahkncakaa
namespace Go.Proofs.Ytcmkdoahkncakaa
set_option linter.unusedVariables false
end Go.Proofs.Ytcmkdoahkncakaa
namespace Go.Proofs.Ytcmkdoahkncakaa
set_option linter.unusedVariables false
set_option linter.unusedSimpArgs false
variable {F : Nat} [Big F]
theorem node_Copy_eq {n : DNode} (h : chkN n = 0) : node_Copy n = some n := by
 obtain ⟨h1, h2⟩ := small8 h
 have h3 : n.seps.length ≤ 8 ∧ n.tids.length ≤ 8 := by
  rcases chkN_zero.1 h with h | h | h
  · rw [h.2.2.2.1, h.2.2.2.2]; simp
  · rw [h.2.seps, h.2.tids]; simp
  · have := h.2.seps; have := h.2.tids; omega
 unfold node_Copy
 rw [grow_ok (by simp; omega) (by simp; omega), Option.bind_some, grow_ok (by simp; omega) (by simp; omega), Option.bind_some, grow_ok (by simp; omega) (by simp; omega), Option.bind_some, grow_ok (by simp; omega) (by simp; omega), Option.bind_some]
 rfl
theorem allN_of {N : NL} (h : ∀ (j : Nat) (k : Int), N[j]? ≠ some (.inl k)) : allN N = some (fN N) := by
 have e : N = (fN N).map Sum.inr := List.ext_getElem? fun j => by
  rw [List.getElem?_map, fN_get]
  cases hj : N[j]? with
  | none => rfl
  | some x =>
   cases x with
   | inl k => exact absurd hj (h j k)
   | inr n => rfl
 conv => lhs; rw [e]
 exact allN_map _
theorem tree_Copy_eq {t : DTree} (hl : t.nodes.length ≤ 400) (hc : ∀ n ∈ t.nodes, chkN n = 0) : tree_Copy F t = some t := by
 unfold tree_Copy
 rw [loop_run (fun k => ((t.nodes.take k).map (Sum.inr : DNode → Int ⊕ DNode), (k : Int))) t.nodes.length (by simp) (by omega) (fun k hk => ?_) (r := t.nodes.map Sum.inr) ?_, Option.bind_some, allN_map, Option.bind_some]
 · dsimp only
   rw [decide_eq_false (by omega), cond_false, List.take_length]
 · have hg : t.nodes[k]? = some t.nodes[k] := List.getElem?_eq_getElem hk
   have hr : roomN 104 (((t.nodes.take k).map (Sum.inr : DNode → Int ⊕ DNode)).length + 1) = some () := by
    unfold roomN; rw [List.length_map, List.length_take, if_pos ⟨by omega, by unfold maxLen; omega⟩]
   dsimp only
   rw [decide_eq_true (by omega), cond_true, idx_nat', hg, Option.bind_some, node_Copy_eq (hc _ (List.getElem_mem _)), Option.bind_some, hr, Option.bind_some, w64 (by omega) (by omega), List.take_add_one, hg, List.map_append]
   rfl
def nlT (t : DTree) : NL := t.nodes.map Sum.inr
theorem fN_nl (t : DTree) : fN (nlT t) = t.nodes := fN_inr _
theorem nl_get {t : DTree} {j : Nat} {x : Int ⊕ DNode} (h : (nlT t)[j]? = some x) : ∃ n, t.nodes[j]? = some n ∧ x = .inr n := by
 unfold nlT at h
 rw [List.getElem?_map] at h
 obtain ⟨n, hn, rfl⟩ := Option.map_eq_some_iff.1 h
 exact ⟨n, hn, rfl⟩
theorem good_chk {t : DTree} {h : Nat} (g : Good t h) : ChkL (nlT t) := fun n hn => by rw [fN_nl] at hn; exact g.chk n hn
theorem good_sub {t : DTree} {h : Nat} (g : Good t h) : SubT (fN (nlT t)) h t.root (mOf 0 h) topS := by
 rw [fN_nl]; exact (okN_sub g.chk h t.root 0 topS (Int.le_refl _)).1 g.ok
theorem good_of {N : NL} {h : Nat} {root : Int} (hc : ChkL N) (hl : N.length ≤ 400) (c : SubT (fN N) h root (mOf 0 h) topS) (hn : (ids (fN N) h root).Nodup) (hall : ∀ (j : Nat) (x : Int ⊕ DNode), N[j]? = some x → kindN x ≠ 0 → j ∈ ids (fN N) h root) : Good ⟨root, fN N⟩ h := by
 refine ⟨by show (fN N).length ≤ 400; rw [fN_length]; exact hl, hc, (okN_sub hc h root 0 topS (Int.le_refl _)).2 c, hn, fun i hi hk => ?_⟩
 have hi' : i < (fN N).length := hi
 rw [fN_length] at hi'
 have hg : N[i]? = some N[i] := List.getElem?_eq_getElem hi'
 refine hall i _ hg fun h0 => hk ?_
 have : nd (fN N) (i : Int) = fN1 N[i] := by unfold nd; rw [Int.toNat_natCast, fN_get, hg]; rfl
 rw [this]
 cases hx : N[i] with
 | inl k => rfl
 | inr n => rw [hx] at h0; exact h0
theorem mOf_le (d : Int) (h : Nat) : mOf d h ≤ 4 := by unfold mOf; split
                                                       · exact Nat.le_refl _
                                                       · split <;> omega
theorem elems_ord {t : DTree} {h : Nat} (g : Good t h) : (elemsAt t.nodes h t.root).Pairwise SpO := (elems_sorted g.chk h t.root 0 topS g.ok).1
theorem chk_small {t : DTree} {h : Nat} (g : Good t h) : ∀ n ∈ t.nodes, Small n := fun n hn => small_chk (g.chk n hn)
end Go.Proofs.Ytcmkdoahkncakaa
namespace Go.Proofs.Ytcmkdoahkncakaa
set_option linter.unusedVariables false
set_option linter.unusedSimpArgs false
section walks
variable {τ α β : Type} {F : Nat}
def runX (t : τ → α → τ × Nat) : List α → τ → τ × Nat
 | [], a => (a, 0)
 | e :: l, a => if (t a e).2 = 0 then runX t l (t a e).1 else t a e
theorem runX_append (t : τ → α → τ × Nat) : ∀ (l m : List α) (a : τ), runX t (l ++ m) a = if (runX t l a).2 = 0 then runX t m (runX t l a).1 else runX t l a
 | [], m, a => by simp [runX]
 | e :: l, m, a => by
  rw [List.cons_append, runX, runX]
  by_cases h : (t a e).2 = 0
  · rw [if_pos h, if_pos h, runX_append t l m]
  · rw [if_neg h, if_neg h, if_neg h]
theorem runX_filter (t : τ → α → τ × Nat) (p : α → Bool) : ∀ (l : List α) (a : τ), runX (fun st e => if p e then t st e else (st, 0)) l a = runX t (l.filter p) a
 | [], a => rfl
 | e :: l, a => by
  rw [runX]
  by_cases h : p e = true
  · rw [if_pos h, List.filter_cons_of_pos h, runX]
    by_cases h0 : (t a e).2 = 0
    · rw [if_pos h0, if_pos h0, runX_filter t p l]
    · rw [if_neg h0, if_neg h0]
  · rw [if_neg h, if_pos rfl, List.filter_cons_of_neg h, runX_filter t p l]
theorem runX_flatMap (t : τ → α → τ × Nat) (g : β → List α) : ∀ (l : List β) (a : τ), runX (fun st k => runX t (g k) st) l a = runX t (l.flatMap g) a
 | [], a => rfl
 | b :: l, a => by
  rw [runX, List.flatMap_cons, runX_append, runX_flatMap t g l]
theorem runX_len (t : τ → α → τ × Nat) (len : τ → Nat) (ht : ∀ a e, len (t a e).1 ≤ len a + 1) : ∀ (l : List α) (a : τ), len (runX t l a).1 ≤ len a + l.length
 | [], a => Nat.le_refl _
 | e :: l, a => by
  rw [runX, List.length_cons]
  have h1 := ht a e
  by_cases h : (t a e).2 = 0
  · rw [if_pos h]
    have := runX_len t len ht l (t a e).1
    omega
  · rw [if_neg h]; omega
theorem iter_runX {S R : Type} [Big F] {f : S → Option (S ⊕ R)} (t : τ → α → τ × Nat) (l : List α) (enc : τ → Int → S) (o0 : τ → R) (o1 : τ → Nat → R) (a : τ) (hn : l.length ≤ 9223372036854775807) {s : S} (h0 : s = enc a 0)
 (hs : ∀ (k : Nat) (e : α) (st : τ), l[k]? = some e → runX t (l.take k) a = (st, 0) → f (enc st (k : Int)) = some (natCase (t st e).2 (.inl (enc (t st e).1 ((k : Int) + 1))) (fun n => .inr (o1 (t st e).1 n))))
 (he : ∀ st, runX t l a = (st, 0) → f (enc st (l.length : Int)) = some (.inr (o0 st))) :
 iter f F s = some (natCase (runX t l a).2 (o0 (runX t l a).1) (fun n => o1 (runX t l a).1 n)) := by
 subst h0
 have key : ∀ (m k N : Nat) (st : τ), k + m = l.length → m < N → runX t (l.take k) a = (st, 0) → iter f N (enc st (k : Int)) = some (natCase (runX t l a).2 (o0 (runX t l a).1) (fun n => o1 (runX t l a).1 n)) := by
  intro m
  induction m with
  | zero =>
   intro k N st hk hN hr
   obtain ⟨N, rfl⟩ : ∃ M, N = M + 1 := ⟨N - 1, by omega⟩
   rw [List.take_of_length_le (by omega)] at hr
   rw [iter, show k = l.length by omega, he st hr, hr]; rfl
  | succ m ih =>
   intro k N st hk hN hr
   obtain ⟨N, rfl⟩ : ∃ M, N = M + 1 := ⟨N - 1, by omega⟩
   have hkl : k < l.length := by omega
   have hg := List.getElem?_eq_getElem hkl
   have hsplit : runX t l a = runX t (l[k] :: l.drop (k + 1)) st := by
    have h1 := runX_append t (l.take k) (l.drop k) a
    rw [List.take_append_drop, hr, if_pos rfl, List.drop_eq_getElem_cons hkl] at h1
    exact h1
   rw [iter, hs k l[k] st hg hr]
   rw [runX] at hsplit
   cases hz : (t st l[k]).2 with
   | zero =>
    rw [natCase_zero]
    refine ih (k + 1) N _ (by omega) (by omega) ?_
    rw [List.take_add_one, hg, runX_append, hr, if_pos rfl]
    show runX t [l[k]] st = _
    rw [runX, if_pos hz]; rfl
   | succ n =>
    rw [if_neg (by omega)] at hsplit
    rw [natCase_succ, hsplit, hz, natCase_succ]
 exact key l.length 0 F a (by omega) (lt_big hn) rfl
end walks
def geB (s : DSpot) (e : DElem) : Bool := decide (0 ≤ cmpS (spotE e) s)
def fromF (ns : List DNode) (s : DSpot) : Nat → Int → List DElem
 | 0, _ => []
 | m + 1, i => (nd ns i).elems.filter (geB s) ++ (if (nd ns i).kind = 1 then [] else ((nd ns i).kids.drop (wayR (nd ns i).seps s)).flatMap (fromF ns s m))
theorem fromF_sub (ns : List DNode) (s : DSpot) : ∀ (m : Nat) (i : Int), (fromF ns s m i).Sublist (elemsF ns m i) := by
 intro m
 induction m with
 | zero => intro i; exact List.Sublist.refl _
 | succ m ih =>
  intro i
  rw [fromF, elemsF]
  refine List.Sublist.append List.filter_sublist ?_
  split
  · exact List.nil_sublist _
  · have h1 : ∀ l : List Int, (l.flatMap (fromF ns s m)).Sublist (l.flatMap (elemsF ns m)) := by
     intro l
     induction l with
     | nil => exact List.Sublist.refl _
     | cons a l ihl => rw [List.flatMap_cons, List.flatMap_cons]; exact (ih a).append ihl
    refine (h1 _).trans ?_
    have h2 : ∀ (l : List Int) (k : Nat), ((l.drop k).flatMap (elemsF ns m)).Sublist (l.flatMap (elemsF ns m)) := by
     intro l k
     conv => rhs; rw [← List.take_append_drop k l, List.flatMap_append]
     exact List.sublist_append_right _ _
    exact h2 _ _
theorem filter_flatMap' {α β : Type} (p : β → Bool) (f : α → List β) : ∀ l : List α, (l.flatMap f).filter p = l.flatMap fun a => (f a).filter p
 | [] => rfl
 | a :: l => by rw [List.flatMap_cons, List.flatMap_cons, List.filter_append, filter_flatMap' p f l]
theorem fromF_eq {ns : List DNode} (hns : ∀ n ∈ ns, chkN n = 0) (s : DSpot) : ∀ (h m : Nat) (i d : Int) (sp : Span), okN ns h i d sp → h < m → fromF ns s m i = (elemsAt ns h i).filter (geB s) := by
 intro h
 induction h with
 | zero =>
  intro m i d sp hok hm
  obtain ⟨m, rfl⟩ : ∃ q, m = q + 1 := ⟨m - 1, by omega⟩
  rw [fromF, elemsAt, if_pos hok.2.1, List.append_nil]
 | succ h ih =>
  intro m i d sp hok hm
  obtain ⟨m, rfl⟩ : ∃ q, m = q + 1 := ⟨m - 1, by omega⟩
  have hI := (inner_of hns hok.1 hok.2.1).2
  rw [fromF, elemsAt, if_neg hok.2.1.2, hI.elems, List.filter_nil, List.nil_append, filter_flatMap']
  have hk : ∀ k ∈ (nd ns i).kids, fromF ns s m k = (elemsAt ns h k).filter (geB s) := fun k hk => by
   obtain ⟨q, hq⟩ := List.mem_iff_getElem?.1 hk
   exact ih m k _ _ (hok.2.2.2 (k, q) (zip_mem hq)).1 (by omega)
  have hcong : ∀ l : List Int, (∀ k ∈ l, k ∈ (nd ns i).kids) → l.flatMap (fromF ns s m) = l.flatMap fun k => (elemsAt ns h k).filter (geB s) := by
   intro l
   induction l with
   | nil => intro _; rfl
   | cons a l ihl => intro hl; rw [List.flatMap_cons, List.flatMap_cons, hk a (hl a List.mem_cons_self), ihl fun k hk => hl k (List.mem_cons_of_mem _ hk)]
  rw [hcong _ fun k hk => List.mem_of_mem_drop hk]
  have hnil : ((nd ns i).kids.take (wayR (nd ns i).seps s)).flatMap (fun k => (elemsAt ns h k).filter (geB s)) = [] := by
   rw [List.flatMap_eq_nil_iff]
   intro k hk
   rw [List.mem_take_iff_getElem] at hk
   obtain ⟨q, hq, rfl⟩ := hk
   rw [List.filter_eq_nil_iff]
   intro e he
   have hqk : (nd ns i).kids[q]? = some (nd ns i).kids[q] := List.getElem?_eq_getElem (by omega)
   have h1 := (hok.2.2.2 (_, q) (zip_mem hqk)).1
   have h2 := ((elems_sorted hns h _ _ _ h1).2 e he).1
   have hw := wayR_le (nd ns i).seps s
   have hx : (nd ns i).seps[q]? = some (nd ns i).seps[q] := List.getElem?_eq_getElem (by omega)
   have h3 := kidSp_hi hx h2
   have h4 := (wayR_at (nd ns i).seps s).1 q _ (by omega) hx
   have h5 := cmpS_lt_le h3 h4
   unfold geB
   rw [decide_eq_true_eq]
   omega
  conv => rhs; rw [← List.take_append_drop (wayR (nd ns i).seps s) (nd ns i).kids, List.flatMap_append, hnil, List.nil_append]
def preX {τ : Type} (ns : List DNode) (s : DSpot) (len : τ → Nat) (m : Nat) (x : τ × Int) : Prop := kidOk ns m x.2 ∧ len x.1 + (fromF ns s m x.2).length ≤ 100000
theorem preX_root {τ : Type} {t : DTree} {h : Nat} (hg : Good t h) (s : DSpot) (len : τ → Nat) (a : τ) (ha : len a = 0) {F : Nat} [Big F] : preX t.nodes s len F (a, t.root) := by
 have hF := (inferInstance : Big F).le
 have h4 := good_fuel hg
 refine ⟨⟨h, 0, topS, by omega, hg.ok⟩, ?_⟩
 dsimp only
 have h1 := (fromF_sub t.nodes s F t.root).length_le
 rw [elemsF_eq hg.chk h F t.root 0 topS hg.ok (by omega)] at h1
 have := good_small hg
 omega
theorem from_root {t : DTree} {h : Nat} (hg : Good t h) (s : DSpot) {F : Nat} [Big F] : fromF t.nodes s F t.root = (elemsAt t.nodes h t.root).filter (geB s) := by
 have hF := (inferInstance : Big F).le
 have h4 := good_fuel hg
 exact fromF_eq hg.chk s h F t.root 0 topS hg.ok (by omega)
theorem preX_kid {τ : Type} {ns : List DNode} (hns : ∀ n ∈ ns, chkN n = 0) {s : DSpot} {len : τ → Nat} {m : Nat} {a b : τ} {i : Int} (h : preX ns s len (m + 1) (a, i)) (h1 : (nd ns i).kind ≠ 1) {t : τ → DElem → τ × Nat} (ht : ∀ a e, len (t a e).1 ≤ len a + 1)
 (hb : runX t ((nd ns i).elems.filter (geB s)) a = (b, 0)) {k : Nat} {e : Int} (hk : ((nd ns i).kids.drop (wayR (nd ns i).seps s))[k]? = some e) {st : τ}
 (hr : runX (fun st k => runX t (fromF ns s m k) st) (((nd ns i).kids.drop (wayR (nd ns i).seps s)).take k) b = (st, 0)) : preX ns s len m (st, e) := by
 have hkids := (h.1.kids hns).2
 refine ⟨hkids e (List.mem_of_mem_drop (List.mem_of_getElem? hk)), ?_⟩
 rw [runX_flatMap] at hr
 have q1 := runX_len t len ht ((nd ns i).elems.filter (geB s)) a
 rw [hb] at q1
 have q2 := runX_len t len ht ((((nd ns i).kids.drop (wayR (nd ns i).seps s)).take k).flatMap (fromF ns s m)) b
 rw [hr] at q2
 have h2 := h.2
 dsimp only at q1 q2 h2 ⊢
 rw [fromF, if_neg h1, List.length_append] at h2
 obtain ⟨hkl, rfl⟩ := List.getElem?_eq_some_iff.1 hk
 have h3 : (((nd ns i).kids.drop (wayR (nd ns i).seps s)).flatMap (fromF ns s m)).length = ((((nd ns i).kids.drop (wayR (nd ns i).seps s)).take k).flatMap (fromF ns s m)).length + (((((nd ns i).kids.drop (wayR (nd ns i).seps s)).drop k)).flatMap (fromF ns s m)).length := by
  rw [← List.length_append, ← List.flatMap_append, List.take_append_drop]
 rw [List.drop_eq_getElem_cons hkl, List.flatMap_cons, List.length_append] at h3
 omega
theorem way_le {ns : List DNode} {i : Int} (hI : Inner (nd ns i)) (s : DSpot) : wayR (nd ns i).seps s ≤ (nd ns i).kids.length := by
 have := wayR_le (nd ns i).seps s
 have := hI.seps
 omega
end Go.Proofs.Ytcmkdoahkncakaa
namespace Go.Proofs.Ytcmkdoahkncakaa
set_option linter.unusedVariables false
set_option linter.unusedSimpArgs false
variable {F : Nat} [Big F]
abbrev FlatE := Int × Int × Int × Int × Int × ByteArray
def flatE (e : DElem) : FlatE := (e.key.pfs, e.key.obj, e.key.off, e.made, e.gone, e.val)
def stepS (s : DSpot) (st : FlatE) (e : DElem) : FlatE × Nat := if spotE e = s then (flatE e, 1) else (st, 2)
def spotR (l : List DElem) (s : DSpot) : DElem × Int := match l.head? with
 | none => (zeroE, 4)
 | some e => if spotE e = s then (e, 0) else (zeroE, 4)
theorem find_Spot_good {t : DTree} (hs : ∀ n ∈ t.nodes, Small n) {h : Nat} (hg : Good t h) (s : DSpot) : find_Spot F t s = some (spotR ((elemsAt t.nodes h t.root).filter (geB s)) s) := by
 have hz : chkT F t = 0 := chkT_zero.2 ⟨h, hg⟩
 have hlen : ∀ (a : FlatE) (e : DElem), (fun _ : FlatE => 0) (stepS s a e).1 ≤ (fun _ : FlatE => 0) a + 1 := fun _ _ => Nat.zero_le _
 unfold find_Spot
 rw [tree_Check_eq t hs, Option.bind_some, bne0_false hz, cond_false]
 rw [fix_spec (σ := Int × Int × Int × Int × Int × ByteArray × Int) (fun m x => match x with | (x1, x2, x3, x4, x5, x6, x7) => preX t.nodes s (fun _ : FlatE => 0) m ((x1, x2, x3, x4, x5, x6), x7))
  (fun m x => match x with | (x1, x2, x3, x4, x5, x6, x7) => let r := runX (stepS s) (fromF t.nodes s m x7) (x1, x2, x3, x4, x5, x6); (r.2, r.1)) ?h0 ?hstep F _ (preX_root hg s (fun _ => 0) _ rfl)]
 case h0 =>
  rintro ⟨x1, x2, x3, x4, x5, x6, x7⟩ ⟨⟨h, d, s, hm, _⟩, _⟩
  omega
 case hstep =>
  rintro m self ih ⟨x1, x2, x3, x4, x5, x6, x7⟩ hpre
  dsimp only at hpre
  obtain ⟨⟨h0, h1⟩, hkids⟩ := hpre.1.kids hg.chk
  dsimp only at h0 h1 hkids ⊢
  have hmem := nd_mem h0 h1
  obtain ⟨h8, h8'⟩ := small8 (hg.chk _ hmem)
  rw [nd_get h0 h1, Option.bind_some]
  rw [iter_runX (fun st e => if geB s e then stepS s st e else (st, 0)) (nd t.nodes x7).elems (fun (st : FlatE) k => (st.1, st.2.1, st.2.2.1, st.2.2.2.1, st.2.2.2.2.1, st.2.2.2.2.2, k)) Sum.inl (fun st n => Sum.inr (n + 1, st)) (x1, x2, x3, x4, x5, x6) (by omega) rfl ?hs ?he]
  case hs =>
   rintro k e ⟨y1, y2, y3, y4, y5, y6⟩ hk hr
   have hkl := (List.getElem?_eq_some_iff.1 hk).1
   dsimp only
   rw [decide_eq_true (by omega), cond_true, idx_nat', hk, Option.bind_some, elem_Spot_eq, Option.bind_some, key_CmpSpot_eq, Option.bind_some, w64 (by omega) (by omega)]
   unfold geB
   by_cases hge : 0 ≤ cmpS (spotE e) s
   · rw [decide_eq_true hge, cond_true, if_pos rfl, Option.bind_some]
     unfold stepS
     by_cases hn : spotE e = s
     · rw [if_pos hn, show (spotE e == s) = true by simpa using hn]; rfl
     · rw [if_neg hn, show (spotE e == s) = false by simpa using hn]; rfl
   · rw [decide_eq_false hge, cond_false, if_neg (by simp)]; rfl
  case he =>
   rintro ⟨y1, y2, y3, y4, y5, y6⟩ hr
   dsimp only
   rw [decide_eq_false (by omega)]; rfl
  rw [Option.bind_some, runX_filter, fromF]
  cases hb : runX (stepS s) ((nd t.nodes x7).elems.filter (geB s)) (x1, x2, x3, x4, x5, x6) with
  | mk b c =>
   rw [runX_append, hb]
   cases c with
   | succ c => rfl
   | zero =>
    obtain ⟨b1, b2, b3, b4, b5, b6⟩ := b
    dsimp only [natCase]
    rw [if_pos rfl]
    by_cases hk : (nd t.nodes x7).kind = 1
    · rw [if_pos hk, show ((nd t.nodes x7).kind == 1) = true by simpa using hk]; rfl
    · rw [if_neg hk, show ((nd t.nodes x7).kind == 1) = false by simpa using hk, cond_false]
      have hw : wayR (nd t.nodes x7).seps s ≤ (nd t.nodes x7).kids.length := by
       rcases chkN_zero.1 (hg.chk _ hmem) with q | q | q
       · rw [q.2.2.2.1]; exact Nat.zero_le _
       · exact absurd q.1 hk
       · exact way_le q.2 s
      rw [node_Way_eq _ s (hs _ hmem), Option.bind_some, lslice_from hw, Option.bind_some]
      rw [iter_runX (fun st k => runX (stepS s) (fromF t.nodes s m k) st) ((nd t.nodes x7).kids.drop (wayR (nd t.nodes x7).seps s)) (fun (st : FlatE) k => (st.1, st.2.1, st.2.2.1, st.2.2.2.1, st.2.2.2.2.1, st.2.2.2.2.2, k)) Sum.inl (fun st n => Sum.inr (n + 1, st)) (b1, b2, b3, b4, b5, b6) (by rw [List.length_drop]; omega) rfl ?hs2 ?he2]
      case hs2 =>
       rintro k e ⟨y1, y2, y3, y4, y5, y6⟩ hk2 hr
       have hkl := (List.getElem?_eq_some_iff.1 hk2).1
       rw [List.length_drop] at hkl
       dsimp only
       rw [decide_eq_true (by rw [List.length_drop]; omega), cond_true, idx_nat', hk2, Option.bind_some, ih (y1, y2, y3, y4, y5, y6, e) (preX_kid hg.chk hpre hk hlen hb hk2 hr), Option.bind_some, w64 (by omega) (by omega)]
       dsimp only
       cases hc : runX (stepS s) (fromF t.nodes s m e) (y1, y2, y3, y4, y5, y6) with
       | mk y c => cases c <;> rfl
      case he2 =>
       rintro ⟨y1, y2, y3, y4, y5, y6⟩ hr
       dsimp only
       rw [decide_eq_false (by omega)]; rfl
      rw [Option.bind_some, runX_flatMap]
      cases hc : runX (stepS s) (((nd t.nodes x7).kids.drop (wayR (nd t.nodes x7).seps s)).flatMap (fromF t.nodes s m)) (b1, b2, b3, b4, b5, b6) with
      | mk y c => cases c <;> rfl
 rw [Option.bind_some]
 dsimp only
 rw [from_root hg s]
 generalize (elemsAt t.nodes h t.root).filter (geB s) = l
 unfold spotR
 cases l with
 | nil => rfl
 | cons e l =>
  rw [runX]
  unfold stepS
  dsimp only [List.head?]
  by_cases hn : spotE e = s
  · rw [if_pos hn, if_pos hn, if_neg (by simp)]; rfl
  · rw [if_neg hn, if_neg hn, if_neg (by simp)]; rfl
end Go.Proofs.Ytcmkdoahkncakaa
namespace Go.Proofs.Ytcmkdoahkncakaa
set_option linter.unusedVariables false
set_option linter.unusedSimpArgs false
variable {F : Nat} [Big F]
theorem shrunk_good {t : DTree} {h h' : Nat} {root' : Int} {N' : NL} (g : Good t h) (len : N'.length = (nlT t).length) (out : ∀ j : Nat, j ∉ ids t.nodes h t.root → N'[j]? = (nlT t)[j]?) (chk : ChkL N') (sub : SubT (fN N') h' root' (mOf 0 h') topS)
 (perm : ∃ Z, (ids t.nodes h t.root).Perm (Z ++ ids (fN N') h' root') ∧ ∀ j ∈ Z, N'[j]? = some (.inr zN)) : allN N' = some (fN N') ∧ Good ⟨root', fN N'⟩ h' := by
 obtain ⟨Z, hZ, hz⟩ := perm
 have key : ∀ (j : Nat) (x : Int ⊕ DNode), N'[j]? = some x → (∃ n, x = .inr n) ∧ (kindN x ≠ 0 → j ∈ ids (fN N') h' root') := fun j x hx => by
  by_cases hj : j ∈ ids t.nodes h t.root
  · rcases List.mem_append.1 (hZ.mem_iff.1 hj) with hj | hj
    · rw [hz j hj] at hx
      obtain rfl := Option.some.inj hx
      exact ⟨⟨_, rfl⟩, fun hk => absurd rfl hk⟩
    · obtain ⟨n, hn, _⟩ := sub.used j hj
      rw [hn] at hx
      exact ⟨⟨n, (Option.some.inj hx).symm⟩, fun _ => hj⟩
  · rw [out j hj] at hx
    obtain ⟨n, hn, rfl⟩ := nl_get hx
    exact ⟨⟨n, rfl⟩, fun hk => absurd (g.all j (List.getElem?_eq_some_iff.1 hn).1 (by rw [nd_at hn]; exact hk)) hj⟩
 refine ⟨allN_of fun j k hj => ?_, good_of chk ?_ sub ?_ fun j x hx => (key j x hx).2⟩
 · obtain ⟨⟨n, hn⟩, _⟩ := key j _ hj
   cases hn
 · rw [len]; unfold nlT; rw [List.length_map]; exact g.len
 · exact (List.nodup_append.1 (hZ.nodup_iff.1 g.nodup)).2.1
theorem put_same {N : NL} {i : Int} {n : DNode} (h : N[i.toNat]? = some (.inr n)) : putAt (outAt N i) i n = N := by
 refine List.ext_getElem? fun j => ?_
 by_cases hj : j = i.toNat
 · subst hj
   rw [putAt_self _ (by rw [outAt_length]; exact (List.getElem?_eq_some_iff.1 h).1), h]
 · rw [putAt_get _ hj, outAt_get _ hj]
theorem outX_good {t : DTree} {h : Nat} {sp : DSpot} (g : Good t h) :
 ∃ (root : Int) (N : NL), outX F sp (nlT t) t.root = some (N, root) ∧ allN N = some (fN N) ∧ ∃ h', Good ⟨root, fN N⟩ h' ∧ elemsAt (fN N) h' root = (elemsAt t.nodes h t.root).filter (notS sp) := by
 have hF := (inferInstance : Big F).le
 have hfu := good_fuel g
 have hc := good_chk g
 have c := good_sub g
 have hlen : (nlT t).length ≤ 400 := by unfold nlT; rw [List.length_map]; exact g.len
 have hnd : (ids (fN (nlT t)) h t.root).Nodup := by rw [fN_nl]; exact g.nodup
 have hr := c.range
 rw [fN_length] at hr
 unfold outX
 cases h with
 | zero =>
  obtain ⟨N', hrun, P⟩ := rem_code (F := F) sp 0 F (nlT t) t.root 0 topS (by omega) hc hlen (.inl rfl) c hnd rfl
  have c' : SubT (fN N') 0 t.root 0 topS := P.sub
  have L := c'.leaf P.chk
  obtain ⟨q1, q2⟩ := c'.node
  obtain ⟨r1, r2⟩ := shrunk_good g P.len (fun j hj => P.out j (by rw [fN_nl]; exact hj)) P.chk c' (by obtain ⟨Z, hZ, hz⟩ := P.perm; rw [fN_nl] at hZ; exact ⟨Z, hZ, hz⟩)
  refine ⟨t.root, N', ?_, r1, 0, r2, by rw [P.elems, fN_nl]⟩
  rw [hrun, Option.bind_some, q1, Option.bind_some, L.kids, show (((([] : List Int).length : Int)) == 1) = false from rfl, cond_false, Option.bind_some, put_same q2]
 | succ h =>
  obtain ⟨f, hf⟩ : ∃ f, F = f + 1 := ⟨F - 1, by omega⟩
  obtain ⟨N3, K, X, T, hrun, M⟩ := rem_mid (F := F) (rem_code sp h) (mf := f) (by omega) hc hlen c hnd rfl
  rw [← hf] at hrun
  have hids : ids t.nodes (h + 1) t.root = t.root.toNat :: (nd t.nodes t.root).kids.flatMap (ids t.nodes h) := rfl
  have hels : elemsAt t.nodes (h + 1) t.root = (nd t.nodes t.root).kids.flatMap (elemsAt t.nodes h) := rfl
  have hMe := M.elems
  obtain ⟨Z, hZ, hz⟩ := M.perm
  rw [fN_nl] at hMe hZ
  have hn1 := g.nodup
  rw [hids] at hn1
  obtain ⟨n1, n2⟩ := List.nodup_cons.1 hn1
  have hl3 := M.len
  have h2 : 2 ≤ (nd t.nodes t.root).kids.length := by have := c.2.2.1; rw [fN_nl] at this; unfold mOf at this; simpa using this
  have hmore := M.more
  rw [fN_nl] at hmore
  have hget : (putAt N3 t.root ⟨2, [], K, X, T⟩)[t.root.toNat]? = some (.inr ⟨2, [], K, X, T⟩) := putAt_self _ (by rw [hl3]; omega)
  have hnode : nodeAt (putAt N3 t.root ⟨2, [], K, X, T⟩) t.root = some ⟨2, [], K, X, T⟩ := by
   unfold nodeAt
   rw [if_neg (by omega), hget]; rfl
  rw [hrun, Option.bind_some, hnode, Option.bind_some]
  dsimp only
  by_cases h1 : K.length = 1
  · obtain ⟨k, rfl⟩ := List.length_eq_one_iff.1 h1
    obtain ⟨X0, hX0⟩ : ∃ X0, X0 = X := ⟨_, rfl⟩
    have hXl := M.ch.lens.1
    obtain rfl : X = [] := List.eq_nil_of_length_eq_zero (by simpa using hXl)
    obtain ⟨k', t', e1, e2, q⟩ := M.ch
    obtain rfl : k = k' := by simpa using e1
    have hkn : ∀ j ∈ ids (fN N3) h k, j ≠ t.root.toNat := fun j hj e => n1 (hZ.mem_iff.2 (List.mem_append_right _ (by rw [List.flatMap_singleton, ← e]; exact hj)))
    have hN : putAt (outAt (putAt N3 t.root ⟨2, [], [k], [], T⟩) t.root) t.root zN = putAt N3 t.root zN := by
     unfold putAt outAt
     rw [List.set_set, List.set_set]
    obtain ⟨a1, a2, a3, a4⟩ := SubT.agree (N' := putAt N3 t.root zN) (by rw [putAt_length]; exact Nat.le_refl _) q.1 fun j hj => putAt_get N3 (hkn j hj)
    rw [List.flatMap_singleton] at hMe hZ
    obtain ⟨r1, r2⟩ := shrunk_good (root' := k) g (by rw [putAt_length]; exact hl3) (fun j hj => by
     have := M.out j (by rw [fN_nl]; exact hj)
     rw [hids, List.mem_cons, not_or] at hj
     rw [putAt_get N3 hj.1, this]) (M.chk.put zN_chk) (a1.weak (mOf_le 0 h)) ⟨t.root.toNat :: Z, by rw [hids, a2]; exact List.Perm.cons _ hZ, fun j hj => by
     rcases List.mem_cons.1 hj with rfl | hj
     · exact putAt_self _ (by rw [hl3]; omega)
     · rw [putAt_get N3 (show j ≠ t.root.toNat from fun e => n1 (hZ.mem_iff.2 (List.mem_append_left _ (by rw [← e]; exact hj))))]
       exact hz j hj⟩
    refine ⟨k, putAt N3 t.root zN, ?_, r1, h, r2, by rw [a3, hMe, hels]⟩
    rw [show ((([k] : List Int).length : Int) == 1) = true from rfl, cond_true, has_at (by rw [outAt_length, putAt_length, hl3]; exact hr), Option.bind_some, show idx [k] 0 = some k from rfl, Option.bind_some, Option.bind_some]
    dsimp only
    exact congrArg (fun q => some (q, k)) hN
  · have P := rem_put hlen c hc hnd M (by omega)
    have h2K : 2 ≤ K.length := by omega
    have hck := inner_chk (n := ⟨2, [], K, X, T⟩) rfl (inner_mk M.chk (by rw [hl3]; exact hlen) M.ch h2K (by have := M.few; rw [fN_nl] at this; have := (c.inner hc).eight; rw [fN_nl] at this; omega) M.ord M.ok)
    have hnd2 := nd_of hget
    have c' : SubT (fN (putAt N3 t.root ⟨2, [], K, X, T⟩)) (h + 1) t.root (mOf 0 (h + 1)) topS :=
     ⟨P.sub.1, P.sub.2.1, by rw [hnd2]; unfold mOf; simpa using h2K, P.sub.2.2.2⟩
    obtain ⟨r1, r2⟩ := shrunk_good g P.len (fun j hj => P.out j (by rw [fN_nl]; exact hj)) P.chk c' (by obtain ⟨Z, hZ, hz⟩ := P.perm; rw [fN_nl] at hZ; exact ⟨Z, hZ, hz⟩)
    refine ⟨t.root, _, ?_, r1, h + 1, r2, by rw [P.elems, fN_nl]⟩
    rw [show ((K.length : Int) == 1) = false by rw [beq_eq_false_iff_ne]; omega, cond_false, Option.bind_some, put_same hget]
theorem spotR_hit {l : List DElem} {s : DSpot} (ho : l.Pairwise SpO) (hs : ∃ x ∈ l, spotE x = s) : (spotR (l.filter (geB s)) s).2 = 0 := by
 obtain ⟨x, hx, hxs⟩ := hs
 have hm : x ∈ l.filter (geB s) := List.mem_filter.2 ⟨hx, by unfold geB; rw [hxs, cmp_cmpS.refl]; rfl⟩
 have ho' : (l.filter (geB s)).Pairwise SpO := ho.filter _
 unfold spotR
 cases hl : l.filter (geB s) with
 | nil => rw [hl] at hm; cases hm
 | cons y r =>
  have hy : geB s y = true := (List.mem_filter.1 (show y ∈ l.filter (geB s) by rw [hl]; exact List.mem_cons_self)).2
  rw [hl] at hm ho'
  have e : spotE y = s := by
   rcases List.mem_cons.1 hm with rfl | hm
   · exact hxs
   · have h1 : cmpS (spotE y) (spotE x) < 0 := (List.pairwise_cons.1 ho').1 x hm
     unfold geB at hy
     have h2 : 0 ≤ cmpS (spotE y) s := by simpa using hy
     rw [hxs] at h1
     omega
  show (if spotE y = s then (y, (0 : Int)) else (zeroE, 4)).2 = 0
  rw [if_pos e]
omit [Big F] in
theorem shrink_Remove_eq (t : DTree) (s : DSpot) : shrink_Remove F t s = (find_Spot F t s).bind fun r1 => bif (r1.2 != 0) then some (DTree.mk 0 [], r1.2) else
 (tree_Copy F t).bind fun r2 => (outX F s (nlT r2) r2.root).bind fun z => match z with | (z1, z2) => (allN z1).bind fun l1 => some (DTree.mk z2 l1, 0) := rfl
theorem shrink_Remove_good {t : DTree} {h : Nat} {s : DSpot} (g : Good t h) (hs : ∃ x ∈ elemsAt t.nodes h t.root, spotE x = s) :
 ∃ t' h', shrink_Remove F t s = some (t', 0) ∧ Good t' h' ∧ elemsAt t'.nodes h' t'.root = (elemsAt t.nodes h t.root).filter (notS s) := by
 obtain ⟨root, N, h1, h2, h', h3, h4⟩ := outX_good (F := F) (sp := s) g
 refine ⟨⟨root, fN N⟩, h', ?_, h3, h4⟩
 have hf := spotR_hit (elems_ord g) hs
 rw [shrink_Remove_eq, find_Spot_good (chk_small g) g, Option.bind_some, hf, bne0_false rfl, cond_false, tree_Copy_eq g.len g.chk, Option.bind_some, h1, Option.bind_some]
 dsimp only
 rw [h2, Option.bind_some]
theorem rem_at {l : List DElem} {r : Nat} {x : DElem} (ho : l.Pairwise SpO) (hx : l[r]? = some x) : l.filter (notS (spotE x)) = l.take r ++ l.drop (r + 1) := by
 obtain ⟨hr, he⟩ := List.getElem?_eq_some_iff.1 hx
 have e := list_at l hr
 rw [he] at e
 have hnx : notS (spotE x) x = false := by unfold notS; simp
 have ho' := ho
 rw [e] at ho'
 obtain ⟨o1, o2, o3⟩ := List.pairwise_append.1 ho'
 conv => lhs; rw [e]
 rw [List.filter_append, List.filter_cons, if_neg (by rw [hnx]; decide), notS_all, notS_all]
 · intro y hy hs
   have h1 : cmpS (spotE x) (spotE y) < 0 := (List.pairwise_cons.1 o2).1 y hy
   rw [hs, cmp_cmpS.refl] at h1; omega
 · intro y hy hs
   have h1 : cmpS (spotE y) (spotE x) < 0 := o3 y hy x List.mem_cons_self
   rw [hs, cmp_cmpS.refl] at h1; omega
end Go.Proofs.Ytcmkdoahkncakaa
namespace Go.Proofs.Ytcmkdoahkncakaa
set_option linter.unusedVariables false
set_option linter.unusedSimpArgs false
variable {F : Nat} [Big F]
theorem equalF {α : Type} [DecidableEq α] (test : α → α → Bool) (ht : ∀ x y, test x y = true ↔ x = y) (p q : List α) (hp : p.length ≤ 9223372036854775807) :
 (bif ((p.length : Int) != (q.length : Int)) then
  some false
 else
  (iter (σ := Int) (ρ := (Unit) ⊕ Bool) (fun x1 =>
   bif decide (x1 < (p.length : Int)) then
    (idx p x1).bind fun e1 =>
    (idx q x1).bind fun e2 =>
    bif (!(test e1 e2)) then
     some (.inr (.inr false))
    else
     some (.inl (IntKind.i64.wrap (x1 + 1)))
    else
     some (.inr (.inl ()))) F 0).bind fun z => match z with
  | .inl _ =>
   some true
  | .inr q => some q) = some (decide (p = q)) := by
 by_cases hl : p.length = q.length
 · rw [show ((p.length : Int) != (q.length : Int)) = false by rw [bne_eq_false_iff_eq]; omega, cond_false]
   obtain ⟨W, hW⟩ : ∃ W : Nat → α → Option (Unit ⊕ Bool), ∀ k e, W k e = if q[k]? = some e then none else some (Sum.inr false) := ⟨_, fun _ _ => rfl⟩
   rw [loop_find p W (Sum.inl ()) hp rfl (fun k e hk _ => ?_) (by simp)]
   · by_cases he : p = q
     · subst he
       rw [find_none.2 fun k e hk => by rw [hW, if_pos hk], decide_eq_true rfl]; rfl
     · rw [decide_eq_false he]
       cases hf : p.zipIdx.findSome? fun a => W a.2 a.1 with
       | some r =>
        obtain ⟨k, e, _, hr⟩ := find_some hf
        rw [hW] at hr
        split at hr
        · cases hr
        · obtain rfl := Option.some.inj hr; rfl
       | none =>
        exfalso
        apply he
        rw [find_none] at hf
        apply List.ext_getElem?
        intro k
        cases hk : p[k]? with
        | none => rw [List.getElem?_eq_none_iff] at hk; rw [List.getElem?_eq_none (by omega)]
        | some e =>
         have := hf k e hk
         rw [hW] at this
         split at this
         · rename_i h; exact h.symm
         · cases this
   · have hkl := (List.getElem?_eq_some_iff.1 hk).1
     have hq : q[k]? = some (q[k]'(by omega)) := List.getElem?_eq_getElem (by omega)
     rw [decide_eq_true (by omega), cond_true, idx_nat', idx_nat', hk, hq, Option.bind_some, Option.bind_some, w64 (by omega) (by omega), hW]
     by_cases he : q[k]'(by omega) = e
     · rw [if_pos (by rw [hq, he]), (ht _ _).2 he.symm]; rfl
     · have hf : test e (q[k]'(by omega)) = false := by
        cases hx : test e (q[k]'(by omega))
        · rfl
        · exact absurd ((ht _ _).1 hx).symm he
       rw [if_neg (by rw [hq]; simpa using he), hf]; rfl
 · rw [show ((p.length : Int) != (q.length : Int)) = true by rw [bne_iff_ne]; omega, cond_true, decide_eq_false (fun e => hl (by rw [e]))]
theorem eqElem (p q : List DElem) (hp : p.length ≤ 9223372036854775807) : slices_Equal_Elem F p q = some (decide (p = q)) := equalF (fun x y => x == y) (fun x y => by simp) p q hp
end Go.Proofs.Ytcmkdoahkncakaa
namespace Go.Proofs.Ytcmkdoahkncakaa
set_option linter.unusedVariables false
set_option linter.unusedSimpArgs false
variable {F : Nat} [Big F]
theorem within_nat {n m : Int} (hm : 0 < m) (hn : m ≤ 1000000) : ∃ r : Nat, annalkeep_Within n m = some (r : Int) ∧ (r : Int) < m := by
 unfold annalkeep_Within toDiv
 have e1 : IntKind.u64.wrap m = m := by simp [IntKind.wrap, IntKind.bits, IntKind.signed]; omega
 have e2 : 0 ≤ IntKind.u64.wrap n := by simp [IntKind.wrap, IntKind.bits, IntKind.signed]; omega
 rw [e1, if_neg (by omega), Option.bind_some]
 have h3 := Int.tmod_nonneg m e2
 have h4 := Int.tmod_lt_of_pos (IntKind.u64.wrap n) hm
 refine ⟨((IntKind.u64.wrap n).tmod m).toNat, ?_, by omega⟩
 rw [w64 (by omega) (by omega)]
 congr 1; omega
theorem build_ok {l : List DElem} (h : ¬ 400 < l.length) (hb : badR l = none) : ofR l = (buildT l, 0) := by
 unfold ofR; rw [if_neg h, hb]
theorem of_eq {l : List DElem} (hl : l.length ≤ 400) (ho : ∀ e ∈ l, chkE e = 0) (hp : l.Pairwise SpO) : annalkeep_of F l = some (buildT l) := by
 unfold annalkeep_of
 rw [build_Of_eq, Option.bind_some, build_ok (by omega) (badR_none.2 ⟨ho, hp⟩)]
theorem good_smalls {t : DTree} {h : Nat} (hg : Good t h) : ∀ n ∈ t.nodes, Small n := fun n hn => small_chk (hg.chk n hn)
theorem one_leaf {l : List DElem} (hl : l.length ≤ 8) (ho : ∀ e ∈ l, chkE e = 0) (hp : l.Pairwise SpO) : Good (buildT l) 0 ∧ elemsAt (buildT l).nodes 0 (buildT l).root = l ∧ (buildT l).nodes.length = 1 := by
 obtain ⟨h, hg, he, hn, h1, hm⟩ := buildT_spec (by omega) ho hp
 have h0 : h = 0 := by
  cases h with
  | zero => rfl
  | succ h => have := hm 0 (by omega); rw [cN, kOf_one hl] at this; omega
 subst h0
 exact ⟨hg, he, by rw [hn, sNk, cN, kOf_one hl]⟩
def at1E (off : Int) (v : ByteArray) : DElem := ⟨⟨0, 0, off⟩, 1, 0, v⟩
theorem at1_eq (off : Int) (v : ByteArray) : annalkeep_at1 off v = some (at1E off v) := rfl
theorem at1_ok {off : Int} {v : ByteArray} (h0 : 0 ≤ off) (h1 : off ≤ 1000) (hv : v.size ≤ 40) : chkE (at1E off v) = 0 := by
 unfold chkE at1E chkK
 dsimp only
 rw [if_neg (by rw [if_neg (by omega)]; simp), if_neg (by omega), if_neg (by omega)]
theorem one_ok {e : DElem} (h : chkE e = 0) : (∀ x ∈ [e], chkE x = 0) ∧ [e].Pairwise SpO := ⟨fun x hx => by rw [List.mem_singleton.1 hx]; exact h, List.pairwise_singleton _ _⟩
theorem equal_refl {l : List DElem} (h : l.length ≤ 9223372036854775807) : slices_Equal_Elem F l l = some true := by rw [eqElem l l h]; simp
theorem begun_eq : annalkeep_begun F = some true := by
 have hc : chkE (at1E 1 (ByteArray.mk #[97])) = 0 := at1_ok (by decide) (by decide) (by decide)
 obtain ⟨ho, hp⟩ := one_ok hc
 obtain ⟨hg, he, hn⟩ := one_leaf (l := [at1E 1 (ByteArray.mk #[97])]) (by simp) ho hp
 unfold annalkeep_begun
 rw [at1_eq, Option.bind_some, of_eq (by simp) ho hp, Option.bind_some, tree_All_good (good_smalls hg) hg, he, Option.bind_some]
 dsimp only
 rw [show ((0 : Int) == 0) = true from rfl, cond_true, Option.bind_some, equal_refl (by simp)]; rfl
end Go.Proofs.Ytcmkdoahkncakaa
namespace Go.Proofs.Ytcmkdoahkncakaa
set_option linter.unusedVariables false
set_option linter.unusedSimpArgs false
variable {F : Nat} [Big F]
theorem annalkeep_ShrinkAll_true (F : Nat) [Big F] (t : DTree) (is : List Int) (ok : okTree t) (oki : okAllW 8 (okInt .i64) is) : annalkeep_ShrinkAll F t is = some true := by
 have hs := small_tree ok
 unfold annalkeep_ShrinkAll
 rw [begun_eq, Option.bind_some]
 rw [show (!true) = false from rfl, cond_false]
 by_cases hc : chkT F t = 0
 rotate_left
 · rw [tree_All_bad hs hc, Option.bind_some]
   dsimp only
   rw [bne0_true hc, Bool.true_or, cond_true]
 obtain ⟨h, g⟩ := chkT_zero.1 hc
 rw [tree_All_good hs g, Option.bind_some]
 dsimp only
 rw [bne0_false rfl, Bool.false_or]
 by_cases h40 : 40 < (elemsAt t.nodes h t.root).length
 · rw [decide_eq_true (by omega), cond_true]
 rw [decide_eq_false (by omega), cond_false]
 refine loop_rec (m := (elemsAt t.nodes h t.root).length) (q := true) (fun m x q => q = true ∧ m = x.2.2.1.length ∧ 0 ≤ x.2.2.2 ∧ x.2.2.2 + (x.2.2.1.length : Int) ≤ 40 ∧ ∃ h, Good ⟨x.1, x.2.1⟩ h ∧ elemsAt x.2.1 h x.1 = x.2.2.1) ?_ (by omega) ⟨rfl, rfl, Int.le_refl _, by dsimp only; omega, h, g, rfl⟩
 rintro m ⟨x1, x2, x3, x4⟩ q ⟨rfl, rfl, h0, h41, h, g, hel⟩
 dsimp only at h0 h41 g hel ⊢
 have hord : x3.Pairwise SpO := by rw [← hel]; exact elems_ord g
 by_cases hx : x3 = []
 · left
   subst hx
   refine ⟨.inl (x1, x2), ?_, ?_⟩
   · rw [decide_eq_false (by simp), cond_false]
   · dsimp only
     rw [tree_Depth_good (good_smalls g) g, Option.bind_some]
     have : h = 0 := by
      match h, g, hel with
      | 0, _, _ => rfl
      | k + 1, g, hel =>
       have h1 : 2 * 4 ^ (k + 1) ≤ (elemsAt x2 (k + 1) x1).length := elems_root g.chk g.ok
       have h2 : 4 ^ 1 ≤ 4 ^ (k + 1) := Nat.pow_le_pow_right (by decide) (by omega)
       rw [hel] at h1
       simp only [List.length_nil] at h1
       omega
     subst this
     rfl
 · right
   have hpos : 0 < x3.length := List.length_pos_iff.2 hx
   obtain ⟨r, hr, hr3⟩ : ∃ r : Nat, r < x3.length ∧ (bif decide (x4 < (is.length : Int)) then (idx is x4).bind fun e1 => (annalkeep_Within e1 (x3.length : Int)).bind fun r5 => some r5 else some 0 : Option Int) = some (r : Int) := by
    by_cases hk : x4 < (is.length : Int)
    · obtain ⟨k, rfl⟩ : ∃ k : Nat, x4 = (k : Int) := ⟨x4.toNat, by omega⟩
      have hg : is[k]? = some (is[k]'(by omega)) := List.getElem?_eq_getElem (by omega)
      obtain ⟨r, h1, h2⟩ := within_nat (n := is[k]'(by omega)) (m := (x3.length : Int)) (by omega) (by omega)
      exact ⟨r, by omega, by rw [decide_eq_true hk, cond_true, idx_nat', hg, Option.bind_some, h1]; rfl⟩
    · exact ⟨0, hpos, by rw [decide_eq_false hk, cond_false]; rfl⟩
   have hg3 : x3[r]? = some x3[r] := List.getElem?_eq_getElem hr
   obtain ⟨t', h', a1, a2, a3⟩ := shrink_Remove_good (F := F) (t := ⟨x1, x2⟩) (s := spotE x3[r]) g ⟨x3[r], by show _ ∈ elemsAt x2 h x1; rw [hel]; exact List.getElem_mem _, rfl⟩
   have a4 : elemsAt t'.nodes h' t'.root = x3.take r ++ x3.drop (r + 1) := by
    rw [a3]
    show (elemsAt x2 h x1).filter _ = _
    rw [hel]; exact rem_at hord hg3
   refine ⟨(x3.take r ++ x3.drop (r + 1)).length, (t'.root, t'.nodes, x3.take r ++ x3.drop (r + 1), x4 + 1), ?_, ?_, rfl, rfl, ?_, ?_, h', a2, a4⟩
   · rw [List.length_append, List.length_take, List.length_drop]; omega
   · have l3 : (x3.take r).length ≤ 40 := by rw [List.length_take]; omega
     have l4 : (x3.drop (r + 1)).length ≤ 40 := by rw [List.length_drop]; omega
     rw [decide_eq_true (by omega), cond_true, hr3, Option.bind_some, idx_nat', hg3, Option.bind_some, elem_Spot_eq, Option.bind_some, a1, Option.bind_some]
     dsimp only
     rw [bne0_false rfl, cond_false, lslice_to (by omega), Option.bind_some, w64 (n := (r : Int) + 1) (by omega) (by omega), show (r : Int) + 1 = ((r + 1 : Nat) : Int) by omega, lslice_from (by omega), Option.bind_some]
     generalize x3.take r = u at *
     generalize x3.drop (r + 1) = v at *
     have w1 : IntKind.i64.wrap (0 + (u.length : Int)) = (u.length : Int) := by rw [w64 (by omega) (by omega)]; omega
     have w2 : IntKind.i64.wrap ((u.length : Int) + (v.length : Int)) = (u.length : Int) + (v.length : Int) := w64 (by omega) (by omega)
     have w3 : IntKind.i64.wrap ((u.length : Int) + (v.length : Int) - 0) = ((u.length + v.length : Nat) : Int) := by rw [w64 (by omega) (by omega)]; omega
     rw [w1, w2, w3, decide_eq_false (by omega), cond_false, decide_eq_false (by omega), cond_false]
     have hz5 : (bif decide ((0 : Int) < ((u.length + v.length : Nat) : Int)) then (noughts 56 ((u.length + v.length : Nat) : Int)).bind fun u3 => (lslice (List.replicate (((u.length + v.length : Nat) : Int)).toNat ((DElem.mk (DKey.mk 0 0 0) 0 0 (ByteArray.mk #[])) : DElem)) 0 0).bind fun s5 => some s5 else some [] : Option (List DElem)) = some [] := by
      by_cases hp : (0 : Int) < ((u.length + v.length : Nat) : Int)
      · rw [decide_eq_true hp, cond_true, noughts_ok hp (by omega) (by omega), Option.bind_some, lslice_ok (by omega) (by omega) (by omega), Option.bind_some]; rfl
      · rw [decide_eq_false hp, cond_false]
     rw [hz5, Option.bind_some, Option.bind_some, grow_ok (by simp; omega) (by simp; omega), Option.bind_some, grow_ok (by simp; omega) (by simp; omega), Option.bind_some, Option.bind_some, tree_All_good (good_smalls a2) a2, a4, Option.bind_some]
     dsimp only
     rw [bne0_false rfl, cond_false, List.nil_append, equal_refl (by rw [List.length_append]; omega), Option.bind_some, Bool.not_true, Option.bind_some, cond_false, w64 (by omega) (by omega)]
   · dsimp only; omega
   · dsimp only
     rw [List.length_append, List.length_take, List.length_drop]; omega
end Go.Proofs.Ytcmkdoahkncakaa
namespace Go.Proofs.Ytcmkdoahkncakaa
open Go.RowKit
theorem prog_own : ownKnob Try.prog.godebug = none := by kernel_rfl
theorem prog_laid : laidOutB Try.prog = true := by kernel_rfl
theorem op26 : Opens Try.prog 26 eKey okKey := opens_key Try.underlying26 (by kernel_rfl) rfl (by kernel_rfl) (opens_int Try.underlying3) rfl (by kernel_rfl) (opens_int Try.underlying3) rfl (by kernel_rfl) (opens_int Try.underlying3)
theorem op28 : Opens Try.prog 28 eElem okElem := opens_elem Try.underlying28 (by kernel_rfl) rfl (by kernel_rfl) op26 rfl (by kernel_rfl) (opens_int Try.underlying3) rfl (by kernel_rfl) (opens_int Try.underlying3) rfl (by kernel_rfl) (opens_str Try.underlying9)
theorem op34 : Opens Try.prog 34 (eList eElem) (okAllW 56 okElem) := opens_list Try.underlying34 (by kernel_rfl) (by kernel_rfl) op28
theorem op47 : Opens Try.prog 47 (eList eInt) (okAllW 8 (okInt .i64)) := opens_list Try.underlying47 (by kernel_rfl) (by kernel_rfl) (opens_int Try.underlying3)
theorem op43 : Opens Try.prog 43 eSpot okSpot := opens_spot Try.underlying43 (by kernel_rfl) rfl (by kernel_rfl) op26 rfl (by kernel_rfl) (opens_int Try.underlying3)
theorem op95 : Opens Try.prog 95 (eList eSpot) (okAllW 32 okSpot) := opens_list Try.underlying95 (by kernel_rfl) (by kernel_rfl) op43
theorem op97 : Opens Try.prog 97 eNode okNode := opens_node Try.underlying97 (by kernel_rfl) rfl (by kernel_rfl) (opens_int Try.underlying3) rfl (by kernel_rfl) op34 rfl (by kernel_rfl) op47 rfl (by kernel_rfl) op95 rfl (by kernel_rfl) op47
theorem op22 : Opens Try.prog 22 (eList eNode) (okAllW 104 okNode) := opens_list Try.underlying22 (by kernel_rfl) (by kernel_rfl) op97
theorem op24 : Opens Try.prog 24 eTree okTree := opens_tree Try.underlying24 (by kernel_rfl) rfl (by kernel_rfl) (opens_int Try.underlying3) rfl (by kernel_rfl) op22
set_option maxRecDepth 100000
def orderSigns : List Char := [.ofNat 104, .ofNat 97, .ofNat 114, .ofNat 110, .ofNat 101, .ofNat 115, .ofNat 115, .ofNat 32, .ofNat 99, .ofNat 101, .ofNat 99, .ofNat 102, .ofNat 54, .ofNat 48, .ofNat 102, .ofNat 51, .ofNat 55, .ofNat 50, .ofNat 101, .ofNat 51, .ofNat 100, .ofNat 49, .ofNat 52, .ofNat 50, .ofNat 50, .ofNat 55, .ofNat 56, .ofNat 55, .ofNat 56, .ofNat 48, .ofNat 54, .ofNat 102, .ofNat 57, .ofNat 56, .ofNat 52, .ofNat 57, .ofNat 100, .ofNat 99, .ofNat 53, .ofNat 97, .ofNat 51, .ofNat 52, .ofNat 52, .ofNat 55, .ofNat 100, .ofNat 55, .ofNat 51, .ofNat 53, .ofNat 56, .ofNat 54, .ofNat 102, .ofNat 102, .ofNat 51, .ofNat 49, .ofNat 50, .ofNat 100, .ofNat 57, .ofNat 100, .ofNat 102, .ofNat 55, .ofNat 50, .ofNat 99, .ofNat 53, .ofNat 101, .ofNat 54, .ofNat 50, .ofNat 55, .ofNat 100, .ofNat 54, .ofNat 55, .ofNat 55, .ofNat 101, .ofNat 32, .ofNat 99, .ofNat 117, .ofNat 116, .ofNat 32, .ofNat 97, .ofNat 116, .ofNat 32, .ofNat 97, .ofNat 110, .ofNat 110, .ofNat 97, .ofNat 108, .ofNat 105, .ofNat 115, .ofNat 116, .ofNat 47, .ofNat 97, .ofNat 110, .ofNat 110, .ofNat 97, .ofNat 108, .ofNat 107, .ofNat 101, .ofNat 101, .ofNat 112, .ofNat 46, .ofNat 71, .ofNat 114, .ofNat 111, .ofNat 119, .ofNat 83, .ofNat 101, .ofNat 116, .ofNat 115, .ofNat 32, .ofNat 97, .ofNat 110, .ofNat 110, .ofNat 97, .ofNat 108, .ofNat 105, .ofNat 115, .ofNat 116, .ofNat 47, .ofNat 97, .ofNat 110, .ofNat 110, .ofNat 97, .ofNat 108, .ofNat 107, .ofNat 101, .ofNat 101, .ofNat 112, .ofNat 46, .ofNat 83, .ofNat 104, .ofNat 114, .ofNat 105, .ofNat 110, .ofNat 107, .ofNat 83, .ofNat 111, .ofNat 109, .ofNat 101, .ofNat 32, .ofNat 97, .ofNat 110, .ofNat 110, .ofNat 97, .ofNat 108, .ofNat 105, .ofNat 115, .ofNat 116, .ofNat 47, .ofNat 97, .ofNat 110, .ofNat 110, .ofNat 97, .ofNat 108, .ofNat 107, .ofNat 101, .ofNat 101, .ofNat 112, .ofNat 46, .ofNat 83, .ofNat 104, .ofNat 114, .ofNat 105, .ofNat 110, .ofNat 107, .ofNat 65, .ofNat 108, .ofNat 108, .ofNat 32, .ofNat 97, .ofNat 110, .ofNat 110, .ofNat 97, .ofNat 108, .ofNat 105, .ofNat 115, .ofNat 116, .ofNat 47, .ofNat 97, .ofNat 110, .ofNat 110, .ofNat 97, .ofNat 108, .ofNat 107, .ofNat 101, .ofNat 101, .ofNat 112, .ofNat 46, .ofNat 80, .ofNat 114, .ofNat 117, .ofNat 110, .ofNat 101, .ofNat 83, .ofNat 116, .ofNat 101, .ofNat 112, .ofNat 115, .ofNat 32, .ofNat 97, .ofNat 110, .ofNat 110, .ofNat 97, .ofNat 108, .ofNat 105, .ofNat 115, .ofNat 116, .ofNat 47, .ofNat 97, .ofNat 110, .ofNat 110, .ofNat 97, .ofNat 108, .ofNat 107, .ofNat 101, .ofNat 101, .ofNat 112, .ofNat 46, .ofNat 71, .ofNat 114, .ofNat 111, .ofNat 119, .ofNat 79, .ofNat 114, .ofNat 100, .ofNat 101, .ofNat 114, .ofNat 115, .ofNat 32, .ofNat 97, .ofNat 110, .ofNat 110, .ofNat 97, .ofNat 108, .ofNat 105, .ofNat 115, .ofNat 116, .ofNat 47, .ofNat 97, .ofNat 110, .ofNat 110, .ofNat 97, .ofNat 108, .ofNat 107, .ofNat 101, .ofNat 101, .ofNat 112, .ofNat 46, .ofNat 84, .ofNat 114, .ofNat 101, .ofNat 101, .ofNat 69, .ofNat 109, .ofNat 112, .ofNat 116, .ofNat 121, .ofNat 32, .ofNat 97, .ofNat 110, .ofNat 110, .ofNat 97, .ofNat 108, .ofNat 105, .ofNat 115, .ofNat 116, .ofNat 47, .ofNat 97, .ofNat 110, .ofNat 110, .ofNat 97, .ofNat 108, .ofNat 107, .ofNat 101, .ofNat 101, .ofNat 112, .ofNat 46, .ofNat 71, .ofNat 114, .ofNat 111, .ofNat 119, .ofNat 77, .ofNat 97, .ofNat 110, .ofNat 121, .ofNat 32, .ofNat 97, .ofNat 110, .ofNat 110, .ofNat 97, .ofNat 108, .ofNat 105, .ofNat 115, .ofNat 116, .ofNat 47, .ofNat 97, .ofNat 110, .ofNat 110, .ofNat 97, .ofNat 108, .ofNat 107, .ofNat 101, .ofNat 101, .ofNat 112, .ofNat 46, .ofNat 84, .ofNat 114, .ofNat 101, .ofNat 101, .ofNat 70, .ofNat 117, .ofNat 108, .ofNat 108, .ofNat 32, .ofNat 97, .ofNat 110, .ofNat 110, .ofNat 97, .ofNat 108, .ofNat 105, .ofNat 115, .ofNat 116, .ofNat 47, .ofNat 97, .ofNat 110, .ofNat 110, .ofNat 97, .ofNat 108, .ofNat 107, .ofNat 101, .ofNat 101, .ofNat 112, .ofNat 46, .ofNat 71, .ofNat 114, .ofNat 111, .ofNat 119, .ofNat 83, .ofNat 104, .ofNat 114, .ofNat 105, .ofNat 110, .ofNat 107, .ofNat 115, .ofNat 32, .ofNat 97, .ofNat 110, .ofNat 110, .ofNat 97, .ofNat 108, .ofNat 105, .ofNat 115, .ofNat 116, .ofNat 47, .ofNat 97, .ofNat 110, .ofNat 110, .ofNat 97, .ofNat 108, .ofNat 107, .ofNat 101, .ofNat 101, .ofNat 112, .ofNat 46, .ofNat 87, .ofNat 114, .ofNat 105, .ofNat 116, .ofNat 101, .ofNat 80, .ofNat 97, .ofNat 115, .ofNat 116, .ofNat 32, .ofNat 97, .ofNat 110, .ofNat 110, .ofNat 97, .ofNat 108, .ofNat 105, .ofNat 115, .ofNat 116, .ofNat 47, .ofNat 97, .ofNat 110, .ofNat 110, .ofNat 97, .ofNat 108, .ofNat 107, .ofNat 101, .ofNat 101, .ofNat 112, .ofNat 46, .ofNat 87, .ofNat 114, .ofNat 105, .ofNat 116, .ofNat 101, .ofNat 83, .ofNat 97, .ofNat 109, .ofNat 101]
theorem order_text : Try.prog.initOrder = "harness cecf60f372e3d1422787806f9849dc5a3447d73586ff312d9df72c5e627d677e cut at annalist/annalkeep.GrowSets annalist/annalkeep.ShrinkSome annalist/annalkeep.ShrinkAll annalist/annalkeep.PruneSteps annalist/annalkeep.GrowOrders annalist/annalkeep.TreeEmpty annalist/annalkeep.GrowMany annalist/annalkeep.TreeFull annalist/annalkeep.GrowShrinks annalist/annalkeep.WritePast annalist/annalkeep.WriteSame" := by kernel_rfl
theorem order_signs : ("harness cecf60f372e3d1422787806f9849dc5a3447d73586ff312d9df72c5e627d677e cut at annalist/annalkeep.GrowSets annalist/annalkeep.ShrinkSome annalist/annalkeep.ShrinkAll annalist/annalkeep.PruneSteps annalist/annalkeep.GrowOrders annalist/annalkeep.TreeEmpty annalist/annalkeep.GrowMany annalist/annalkeep.TreeFull annalist/annalkeep.GrowShrinks annalist/annalkeep.WritePast annalist/annalkeep.WriteSame" : String) = String.ofList orderSigns := by kernel_rfl
theorem prog_order : Try.prog.initOrder.toList = orderSigns := by rw [order_text, order_signs]; exact String.toList_ofList
theorem make_of (P : Program) (h : P.initOrder.toList = orderSigns) : P.make = some .cut := by
 unfold Program.make Program.headLifts
 rw [h]
 kernel_rfl
theorem lifts_of (P : Program) (h : P.initOrder.toList = orderSigns) : P.liftsFinal = false := by
 unfold Program.liftsFinal Program.headLifts
 rw [h]
 kernel_rfl
theorem enter_of (P : Program) (h : P.initOrder.toList = orderSigns) (h1 : P.laysLater = false) (h2 : P.bearsReflect = false) (h3 : P.doorFits [] = true) : P.mayEnter = true := by
 unfold Program.mayEnter
 rw [h, h1, h2]
 have e : (stripLifts liftWords (behindMainWord (wordsSigns orderSigns))).1 = [] := by kernel_rfl
 have e0 : behindMainWord (wordsSigns orderSigns) = "cut".toList :: (behindMainWord (wordsSigns orderSigns)).tail := by kernel_rfl
 rw [e0] at e ⊢
 dsimp only
 rw [e, h3]
 clear h h1 h2 h3
 change _ = true
 kernel_rfl
theorem prog_make : Try.prog.make = some .cut := make_of _ prog_order
theorem prog_lifts : Try.prog.liftsFinal = false := lifts_of _ prog_order
theorem prog_enter : Try.prog.mayEnter = true := enter_of _ prog_order (by kernel_rfl) (by kernel_rfl) (by kernel_rfl)
end Go.Proofs.Ytcmkdoahkncakaa
