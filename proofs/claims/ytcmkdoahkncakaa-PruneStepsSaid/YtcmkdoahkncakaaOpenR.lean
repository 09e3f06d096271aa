/- Pure functions, written by walkgen.py out of the Go functions of group Look. Their conditions: none. -/
import Derived.Test.YtcmkdoahkncakaaTreeFR
import Derived.Test.YtcmkdoahkncakaaRecR
import Derived.Test.YtcmkdoahkncakaaMapR
import Derived.Test.YtcmkdoahkncakaaCpFR
import Derived.Test.YtcmkdoahkncakaaTreeOR
import Derived.Test.YtcmkdoahkncakaaInsR
import Derived.Test.YtcmkdoahkncakaaPRemR
import Derived.Test.YtcmkdoahkncakaaRangeR
import Derived.Test.YtcmkdoahkncakaaPTreeR
import Derived.Test.YtcmkdoahkncakaaPruneFR
import Derived.Test.YtcmkdoahkncakaaPRunR
import Derived.Test.YtcmkdoahkncakaaStepFR
import Derived.Test.YtcmkdoahkncakaaBuildFR
import Derived.Test.YtcmkdoahkncakaaEqsFR
import Derived.Test.YtcmkdoahkncakaaPLoopR
import Derived.Test.YtcmkdoahkncakaaWPruneStepsFR
import Derived.Test.YtcmkdoahkncakaaRows
import Derived.Test.YtcmkdoahkncakaaLawR
namespace Go.Proofs.Ytcmkdoahkncakaa
set_option linter.unusedVariables false
end Go.Proofs.Ytcmkdoahkncakaa
namespace Go.Proofs.Ytcmkdoahkncakaa
set_option linter.unusedVariables false
end Go.Proofs.Ytcmkdoahkncakaa
namespace Go.Proofs.Ytcmkdoahkncakaa
set_option linter.unusedVariables false
end Go.Proofs.Ytcmkdoahkncakaa
namespace Go.Proofs.Ytcmkdoahkncakaa
set_option linter.unusedVariables false
set_option linter.unusedSimpArgs false
variable {F : Nat} [Big F]
theorem node_Copy_eq {n : DNode} (h : chkN n = 0) : node_Copy n = some n := by
 obtain ⟨h1, h2⟩ := small8 h
 have h3 : n.seps.length ≤ 8 ∧ n.tids.length ≤ 8 := by
  rcases chkN_zero.1 h with h | h | h
  · rw [h.2.2.2.1, h.2.2.2.2]; simp
  · rw [h.2.seps, h.2.tids]; simp
  · have := h.2.seps; have := h.2.tids; omega
 unfold node_Copy
 rw [grow_ok (by simp; omega) (by simp; omega), Option.bind_some, grow_ok (by simp; omega) (by simp; omega), Option.bind_some, grow_ok (by simp; omega) (by simp; omega), Option.bind_some, grow_ok (by simp; omega) (by simp; omega), Option.bind_some]
 rfl
theorem allN_of {N : NL} (h : ∀ (j : Nat) (k : Int), N[j]? ≠ some (.inl k)) : allN N = some (fN N) := by
 have e : N = (fN N).map Sum.inr := List.ext_getElem? fun j => by
  rw [List.getElem?_map, fN_get]
  cases hj : N[j]? with
  | none => rfl
  | some x =>
   cases x with
   | inl k => exact absurd hj (h j k)
   | inr n => rfl
 conv => lhs; rw [e]
 exact allN_map _
theorem tree_Copy_eq {t : DTree} (hl : t.nodes.length ≤ 400) (hc : ∀ n ∈ t.nodes, chkN n = 0) : tree_Copy F t = some t := by
 unfold tree_Copy
 rw [loop_run (fun k => ((t.nodes.take k).map (Sum.inr : DNode → Int ⊕ DNode), (k : Int))) t.nodes.length (by simp) (by omega) (fun k hk => ?_) (r := t.nodes.map Sum.inr) ?_, Option.bind_some, allN_map, Option.bind_some]
 · dsimp only
   rw [decide_eq_false (by omega), cond_false, List.take_length]
 · have hg : t.nodes[k]? = some t.nodes[k] := List.getElem?_eq_getElem hk
   have hr : roomN 104 (((t.nodes.take k).map (Sum.inr : DNode → Int ⊕ DNode)).length + 1) = some () := by
    unfold roomN; rw [List.length_map, List.length_take, if_pos ⟨by omega, by unfold maxLen; omega⟩]
   dsimp only
   rw [decide_eq_true (by omega), cond_true, idx_nat', hg, Option.bind_some, node_Copy_eq (hc _ (List.getElem_mem _)), Option.bind_some, hr, Option.bind_some, w64 (by omega) (by omega), List.take_add_one, hg, List.map_append]
   rfl
def nlT (t : DTree) : NL := t.nodes.map Sum.inr
theorem fN_nl (t : DTree) : fN (nlT t) = t.nodes := fN_inr _
theorem nl_get {t : DTree} {j : Nat} {x : Int ⊕ DNode} (h : (nlT t)[j]? = some x) : ∃ n, t.nodes[j]? = some n ∧ x = .inr n := by
 unfold nlT at h
 rw [List.getElem?_map] at h
 obtain ⟨n, hn, rfl⟩ := Option.map_eq_some_iff.1 h
 exact ⟨n, hn, rfl⟩
theorem good_chk {t : DTree} {h : Nat} (g : Good t h) : ChkL (nlT t) := fun n hn => by rw [fN_nl] at hn; exact g.chk n hn
theorem good_sub {t : DTree} {h : Nat} (g : Good t h) : SubT (fN (nlT t)) h t.root (mOf 0 h) topS := by
 rw [fN_nl]; exact (okN_sub g.chk h t.root 0 topS (Int.le_refl _)).1 g.ok
theorem good_of {N : NL} {h : Nat} {root : Int} (hc : ChkL N) (hl : N.length ≤ 400) (c : SubT (fN N) h root (mOf 0 h) topS) (hn : (ids (fN N) h root).Nodup) (hall : ∀ (j : Nat) (x : Int ⊕ DNode), N[j]? = some x → kindN x ≠ 0 → j ∈ ids (fN N) h root) : Good ⟨root, fN N⟩ h := by
 refine ⟨by show (fN N).length ≤ 400; rw [fN_length]; exact hl, hc, (okN_sub hc h root 0 topS (Int.le_refl _)).2 c, hn, fun i hi hk => ?_⟩
 have hi' : i < (fN N).length := hi
 rw [fN_length] at hi'
 have hg : N[i]? = some N[i] := List.getElem?_eq_getElem hi'
 refine hall i _ hg fun h0 => hk ?_
 have : nd (fN N) (i : Int) = fN1 N[i] := by unfold nd; rw [Int.toNat_natCast, fN_get, hg]; rfl
 rw [this]
 cases hx : N[i] with
 | inl k => rfl
 | inr n => rw [hx] at h0; exact h0
theorem mOf_le (d : Int) (h : Nat) : mOf d h ≤ 4 := by unfold mOf; split
                                                       · exact Nat.le_refl _
                                                       · split <;> omega
theorem elems_ord {t : DTree} {h : Nat} (g : Good t h) : (elemsAt t.nodes h t.root).Pairwise SpO := (elems_sorted g.chk h t.root 0 topS g.ok).1
theorem chk_small {t : DTree} {h : Nat} (g : Good t h) : ∀ n ∈ t.nodes, Small n := fun n hn => small_chk (g.chk n hn)
end Go.Proofs.Ytcmkdoahkncakaa
namespace Go.Proofs.Ytcmkdoahkncakaa
set_option linter.unusedVariables false
end Go.Proofs.Ytcmkdoahkncakaa
namespace Go.Proofs.Ytcmkdoahkncakaa
set_option linter.unusedVariables false
set_option linter.unusedSimpArgs false
section walks
variable {τ α β : Type} {F : Nat}
def runX (t : τ → α → τ × Nat) : List α → τ → τ × Nat
 | [], a => (a, 0)
 | e :: l, a => if (t a e).2 = 0 then runX t l (t a e).1 else t a e
theorem runX_append (t : τ → α → τ × Nat) : ∀ (l m : List α) (a : τ), runX t (l ++ m) a = if (runX t l a).2 = 0 then runX t m (runX t l a).1 else runX t l a
 | [], m, a => by simp [runX]
 | e :: l, m, a => by
  rw [List.cons_append, runX, runX]
  by_cases h : (t a e).2 = 0
  · rw [if_pos h, if_pos h, runX_append t l m]
  · rw [if_neg h, if_neg h, if_neg h]
theorem runX_flatMap (t : τ → α → τ × Nat) (g : β → List α) : ∀ (l : List β) (a : τ), runX (fun st k => runX t (g k) st) l a = runX t (l.flatMap g) a
 | [], a => rfl
 | b :: l, a => by
  rw [runX, List.flatMap_cons, runX_append, runX_flatMap t g l]
theorem runX_len (t : τ → α → τ × Nat) (len : τ → Nat) (ht : ∀ a e, len (t a e).1 ≤ len a + 1) : ∀ (l : List α) (a : τ), len (runX t l a).1 ≤ len a + l.length
 | [], a => Nat.le_refl _
 | e :: l, a => by
  rw [runX, List.length_cons]
  have h1 := ht a e
  by_cases h : (t a e).2 = 0
  · rw [if_pos h]
    have := runX_len t len ht l (t a e).1
    omega
  · rw [if_neg h]; omega
theorem iter_runX {S R : Type} [Big F] {f : S → Option (S ⊕ R)} (t : τ → α → τ × Nat) (l : List α) (enc : τ → Int → S) (o0 : τ → R) (o1 : τ → Nat → R) (a : τ) (hn : l.length ≤ 9223372036854775807) {s : S} (h0 : s = enc a 0)
 (hs : ∀ (k : Nat) (e : α) (st : τ), l[k]? = some e → runX t (l.take k) a = (st, 0) → f (enc st (k : Int)) = some (natCase (t st e).2 (.inl (enc (t st e).1 ((k : Int) + 1))) (fun n => .inr (o1 (t st e).1 n))))
 (he : ∀ st, runX t l a = (st, 0) → f (enc st (l.length : Int)) = some (.inr (o0 st))) :
 iter f F s = some (natCase (runX t l a).2 (o0 (runX t l a).1) (fun n => o1 (runX t l a).1 n)) := by
 subst h0
 have key : ∀ (m k N : Nat) (st : τ), k + m = l.length → m < N → runX t (l.take k) a = (st, 0) → iter f N (enc st (k : Int)) = some (natCase (runX t l a).2 (o0 (runX t l a).1) (fun n => o1 (runX t l a).1 n)) := by
  intro m
  induction m with
  | zero =>
   intro k N st hk hN hr
   obtain ⟨N, rfl⟩ : ∃ M, N = M + 1 := ⟨N - 1, by omega⟩
   rw [List.take_of_length_le (by omega)] at hr
   rw [iter, show k = l.length by omega, he st hr, hr]; rfl
  | succ m ih =>
   intro k N st hk hN hr
   obtain ⟨N, rfl⟩ : ∃ M, N = M + 1 := ⟨N - 1, by omega⟩
   have hkl : k < l.length := by omega
   have hg := List.getElem?_eq_getElem hkl
   have hsplit : runX t l a = runX t (l[k] :: l.drop (k + 1)) st := by
    have h1 := runX_append t (l.take k) (l.drop k) a
    rw [List.take_append_drop, hr, if_pos rfl, List.drop_eq_getElem_cons hkl] at h1
    exact h1
   rw [iter, hs k l[k] st hg hr]
   rw [runX] at hsplit
   cases hz : (t st l[k]).2 with
   | zero =>
    rw [natCase_zero]
    refine ih (k + 1) N _ (by omega) (by omega) ?_
    rw [List.take_add_one, hg, runX_append, hr, if_pos rfl]
    show runX t [l[k]] st = _
    rw [runX, if_pos hz]; rfl
   | succ n =>
    rw [if_neg (by omega)] at hsplit
    rw [natCase_succ, hsplit, hz, natCase_succ]
 exact key l.length 0 F a (by omega) (lt_big hn) rfl
end walks
end Go.Proofs.Ytcmkdoahkncakaa
namespace Go.Proofs.Ytcmkdoahkncakaa
set_option linter.unusedVariables false
set_option linter.unusedSimpArgs false
variable {F : Nat} [Big F]
end Go.Proofs.Ytcmkdoahkncakaa
namespace Go.Proofs.Ytcmkdoahkncakaa
set_option linter.unusedVariables false
end Go.Proofs.Ytcmkdoahkncakaa
namespace Go.Proofs.Ytcmkdoahkncakaa
set_option linter.unusedVariables false
set_option linter.unusedSimpArgs false
variable {F : Nat} [Big F]
theorem shrunk_good {t : DTree} {h h' : Nat} {root' : Int} {N' : NL} (g : Good t h) (len : N'.length = (nlT t).length) (out : ∀ j : Nat, j ∉ ids t.nodes h t.root → N'[j]? = (nlT t)[j]?) (chk : ChkL N') (sub : SubT (fN N') h' root' (mOf 0 h') topS)
 (perm : ∃ Z, (ids t.nodes h t.root).Perm (Z ++ ids (fN N') h' root') ∧ ∀ j ∈ Z, N'[j]? = some (.inr zN)) : allN N' = some (fN N') ∧ Good ⟨root', fN N'⟩ h' := by
 obtain ⟨Z, hZ, hz⟩ := perm
 have key : ∀ (j : Nat) (x : Int ⊕ DNode), N'[j]? = some x → (∃ n, x = .inr n) ∧ (kindN x ≠ 0 → j ∈ ids (fN N') h' root') := fun j x hx => by
  by_cases hj : j ∈ ids t.nodes h t.root
  · rcases List.mem_append.1 (hZ.mem_iff.1 hj) with hj | hj
    · rw [hz j hj] at hx
      obtain rfl := Option.some.inj hx
      exact ⟨⟨_, rfl⟩, fun hk => absurd rfl hk⟩
    · obtain ⟨n, hn, _⟩ := sub.used j hj
      rw [hn] at hx
      exact ⟨⟨n, (Option.some.inj hx).symm⟩, fun _ => hj⟩
  · rw [out j hj] at hx
    obtain ⟨n, hn, rfl⟩ := nl_get hx
    exact ⟨⟨n, rfl⟩, fun hk => absurd (g.all j (List.getElem?_eq_some_iff.1 hn).1 (by rw [nd_at hn]; exact hk)) hj⟩
 refine ⟨allN_of fun j k hj => ?_, good_of chk ?_ sub ?_ fun j x hx => (key j x hx).2⟩
 · obtain ⟨⟨n, hn⟩, _⟩ := key j _ hj
   cases hn
 · rw [len]; unfold nlT; rw [List.length_map]; exact g.len
 · exact (List.nodup_append.1 (hZ.nodup_iff.1 g.nodup)).2.1
theorem put_same {N : NL} {i : Int} {n : DNode} (h : N[i.toNat]? = some (.inr n)) : putAt (outAt N i) i n = N := by
 refine List.ext_getElem? fun j => ?_
 by_cases hj : j = i.toNat
 · subst hj
   rw [putAt_self _ (by rw [outAt_length]; exact (List.getElem?_eq_some_iff.1 h).1), h]
 · rw [putAt_get _ hj, outAt_get _ hj]
theorem outX_good {t : DTree} {h : Nat} {sp : DSpot} (g : Good t h) :
 ∃ (root : Int) (N : NL), outX F sp (nlT t) t.root = some (N, root) ∧ allN N = some (fN N) ∧ ∃ h', Good ⟨root, fN N⟩ h' ∧ elemsAt (fN N) h' root = (elemsAt t.nodes h t.root).filter (notS sp) := by
 have hF := (inferInstance : Big F).le
 have hfu := good_fuel g
 have hc := good_chk g
 have c := good_sub g
 have hlen : (nlT t).length ≤ 400 := by unfold nlT; rw [List.length_map]; exact g.len
 have hnd : (ids (fN (nlT t)) h t.root).Nodup := by rw [fN_nl]; exact g.nodup
 have hr := c.range
 rw [fN_length] at hr
 unfold outX
 cases h with
 | zero =>
  obtain ⟨N', hrun, P⟩ := rem_code (F := F) sp 0 F (nlT t) t.root 0 topS (by omega) hc hlen (.inl rfl) c hnd rfl
  have c' : SubT (fN N') 0 t.root 0 topS := P.sub
  have L := c'.leaf P.chk
  obtain ⟨q1, q2⟩ := c'.node
  obtain ⟨r1, r2⟩ := shrunk_good g P.len (fun j hj => P.out j (by rw [fN_nl]; exact hj)) P.chk c' (by obtain ⟨Z, hZ, hz⟩ := P.perm; rw [fN_nl] at hZ; exact ⟨Z, hZ, hz⟩)
  refine ⟨t.root, N', ?_, r1, 0, r2, by rw [P.elems, fN_nl]⟩
  rw [hrun, Option.bind_some, q1, Option.bind_some, L.kids, show (((([] : List Int).length : Int)) == 1) = false from rfl, cond_false, Option.bind_some, put_same q2]
 | succ h =>
  obtain ⟨f, hf⟩ : ∃ f, F = f + 1 := ⟨F - 1, by omega⟩
  obtain ⟨N3, K, X, T, hrun, M⟩ := rem_mid (F := F) (rem_code sp h) (mf := f) (by omega) hc hlen c hnd rfl
  rw [← hf] at hrun
  have hids : ids t.nodes (h + 1) t.root = t.root.toNat :: (nd t.nodes t.root).kids.flatMap (ids t.nodes h) := rfl
  have hels : elemsAt t.nodes (h + 1) t.root = (nd t.nodes t.root).kids.flatMap (elemsAt t.nodes h) := rfl
  have hMe := M.elems
  obtain ⟨Z, hZ, hz⟩ := M.perm
  rw [fN_nl] at hMe hZ
  have hn1 := g.nodup
  rw [hids] at hn1
  obtain ⟨n1, n2⟩ := List.nodup_cons.1 hn1
  have hl3 := M.len
  have h2 : 2 ≤ (nd t.nodes t.root).kids.length := by have := c.2.2.1; rw [fN_nl] at this; unfold mOf at this; simpa using this
  have hmore := M.more
  rw [fN_nl] at hmore
  have hget : (putAt N3 t.root ⟨2, [], K, X, T⟩)[t.root.toNat]? = some (.inr ⟨2, [], K, X, T⟩) := putAt_self _ (by rw [hl3]; omega)
  have hnode : nodeAt (putAt N3 t.root ⟨2, [], K, X, T⟩) t.root = some ⟨2, [], K, X, T⟩ := by
   unfold nodeAt
   rw [if_neg (by omega), hget]; rfl
  rw [hrun, Option.bind_some, hnode, Option.bind_some]
  dsimp only
  by_cases h1 : K.length = 1
  · obtain ⟨k, rfl⟩ := List.length_eq_one_iff.1 h1
    obtain ⟨X0, hX0⟩ : ∃ X0, X0 = X := ⟨_, rfl⟩
    have hXl := M.ch.lens.1
    obtain rfl : X = [] := List.eq_nil_of_length_eq_zero (by simpa using hXl)
    obtain ⟨k', t', e1, e2, q⟩ := M.ch
    obtain rfl : k = k' := by simpa using e1
    have hkn : ∀ j ∈ ids (fN N3) h k, j ≠ t.root.toNat := fun j hj e => n1 (hZ.mem_iff.2 (List.mem_append_right _ (by rw [List.flatMap_singleton, ← e]; exact hj)))
    have hN : putAt (outAt (putAt N3 t.root ⟨2, [], [k], [], T⟩) t.root) t.root zN = putAt N3 t.root zN := by
     unfold putAt outAt
     rw [List.set_set, List.set_set]
    obtain ⟨a1, a2, a3, a4⟩ := SubT.agree (N' := putAt N3 t.root zN) (by rw [putAt_length]; exact Nat.le_refl _) q.1 fun j hj => putAt_get N3 (hkn j hj)
    rw [List.flatMap_singleton] at hMe hZ
    obtain ⟨r1, r2⟩ := shrunk_good (root' := k) g (by rw [putAt_length]; exact hl3) (fun j hj => by
     have := M.out j (by rw [fN_nl]; exact hj)
     rw [hids, List.mem_cons, not_or] at hj
     rw [putAt_get N3 hj.1, this]) (M.chk.put zN_chk) (a1.weak (mOf_le 0 h)) ⟨t.root.toNat :: Z, by rw [hids, a2]; exact List.Perm.cons _ hZ, fun j hj => by
     rcases List.mem_cons.1 hj with rfl | hj
     · exact putAt_self _ (by rw [hl3]; omega)
     · rw [putAt_get N3 (show j ≠ t.root.toNat from fun e => n1 (hZ.mem_iff.2 (List.mem_append_left _ (by rw [← e]; exact hj))))]
       exact hz j hj⟩
    refine ⟨k, putAt N3 t.root zN, ?_, r1, h, r2, by rw [a3, hMe, hels]⟩
    rw [show ((([k] : List Int).length : Int) == 1) = true from rfl, cond_true, has_at (by rw [outAt_length, putAt_length, hl3]; exact hr), Option.bind_some, show idx [k] 0 = some k from rfl, Option.bind_some, Option.bind_some]
    dsimp only
    exact congrArg (fun q => some (q, k)) hN
  · have P := rem_put hlen c hc hnd M (by omega)
    have h2K : 2 ≤ K.length := by omega
    have hck := inner_chk (n := ⟨2, [], K, X, T⟩) rfl (inner_mk M.chk (by rw [hl3]; exact hlen) M.ch h2K (by have := M.few; rw [fN_nl] at this; have := (c.inner hc).eight; rw [fN_nl] at this; omega) M.ord M.ok)
    have hnd2 := nd_of hget
    have c' : SubT (fN (putAt N3 t.root ⟨2, [], K, X, T⟩)) (h + 1) t.root (mOf 0 (h + 1)) topS :=
     ⟨P.sub.1, P.sub.2.1, by rw [hnd2]; unfold mOf; simpa using h2K, P.sub.2.2.2⟩
    obtain ⟨r1, r2⟩ := shrunk_good g P.len (fun j hj => P.out j (by rw [fN_nl]; exact hj)) P.chk c' (by obtain ⟨Z, hZ, hz⟩ := P.perm; rw [fN_nl] at hZ; exact ⟨Z, hZ, hz⟩)
    refine ⟨t.root, _, ?_, r1, h + 1, r2, by rw [P.elems, fN_nl]⟩
    rw [show ((K.length : Int) == 1) = false by rw [beq_eq_false_iff_ne]; omega, cond_false, Option.bind_some, put_same hget]
end Go.Proofs.Ytcmkdoahkncakaa
namespace Go.Proofs.Ytcmkdoahkncakaa
set_option linter.unusedVariables false
set_option linter.unusedSimpArgs false
def preE {τ : Type} (ns : List DNode) (len : τ → Nat) (m : Nat) (x : τ × Int) : Prop := kidOk ns m x.2 ∧ len x.1 + (elemsF ns m x.2).length ≤ 100000
theorem preE_root {τ : Type} {t : DTree} {h : Nat} (hg : Good t h) (len : τ → Nat) (a : τ) (ha : len a = 0) {F : Nat} [Big F] : preE t.nodes len F (a, t.root) := by
 have hF := (inferInstance : Big F).le
 have h4 := good_fuel hg
 refine ⟨⟨h, 0, topS, by omega, hg.ok⟩, ?_⟩
 dsimp only
 rw [elemsF_eq hg.chk h F t.root 0 topS hg.ok (by omega)]
 have := good_small hg
 omega
theorem each_root {t : DTree} {h : Nat} (hg : Good t h) {F : Nat} [Big F] : elemsF t.nodes F t.root = elemsAt t.nodes h t.root := by
 have hF := (inferInstance : Big F).le
 have h4 := good_fuel hg
 exact elemsF_eq hg.chk h F t.root 0 topS hg.ok (by omega)
theorem preE_elems {τ : Type} {ns : List DNode} {len : τ → Nat} {m : Nat} {a : τ} {i : Int} (h : preE ns len (m + 1) (a, i)) {t : τ → DElem → τ × Nat} (ht : ∀ a e, len (t a e).1 ≤ len a + 1) {k : Nat} {e : DElem} (hk : (nd ns i).elems[k]? = some e) {st : τ}
 (hr : runX t ((nd ns i).elems.take k) a = (st, 0)) : len st ≤ 100000 := by
 have h1 := runX_len t len ht ((nd ns i).elems.take k) a
 rw [hr] at h1
 have h2 := h.2
 dsimp only at h1 h2
 rw [elemsF, List.length_append] at h2
 have h3 := (List.take_sublist k (nd ns i).elems).length_le
 omega
theorem preE_kid {τ : Type} {ns : List DNode} (hns : ∀ n ∈ ns, chkN n = 0) {len : τ → Nat} {m : Nat} {a b : τ} {i : Int} (h : preE ns len (m + 1) (a, i)) {t : τ → DElem → τ × Nat} (ht : ∀ a e, len (t a e).1 ≤ len a + 1)
 (hb : runX t (nd ns i).elems a = (b, 0)) {k : Nat} {e : Int} (hk : (nd ns i).kids[k]? = some e) {st : τ}
 (hr : runX (fun st k => runX t (elemsF ns m k) st) ((nd ns i).kids.take k) b = (st, 0)) : preE ns len m (st, e) := by
 have hkids := (h.1.kids hns).2
 refine ⟨hkids e (List.mem_of_getElem? hk), ?_⟩
 rw [runX_flatMap] at hr
 have q1 := runX_len t len ht (nd ns i).elems a
 rw [hb] at q1
 have q2 := runX_len t len ht (((nd ns i).kids.take k).flatMap (elemsF ns m)) b
 rw [hr] at q2
 have h2 := h.2
 dsimp only at q1 q2 h2 ⊢
 rw [elemsF, List.length_append] at h2
 obtain ⟨hkl, rfl⟩ := List.getElem?_eq_some_iff.1 hk
 have h3 : ((nd ns i).kids.flatMap (elemsF ns m)).length = (((nd ns i).kids.take k).flatMap (elemsF ns m)).length + (((nd ns i).kids.drop k).flatMap (elemsF ns m)).length := by
  rw [← List.length_append, ← List.flatMap_append, List.take_append_drop]
 rw [List.drop_eq_getElem_cons hkl, List.flatMap_cons, List.length_append] at h3
 omega
end Go.Proofs.Ytcmkdoahkncakaa
namespace Go.Proofs.Ytcmkdoahkncakaa
set_option linter.unusedVariables false
set_option linter.unusedSimpArgs false
variable {F : Nat} [Big F]
def timesE (l : List Int) : Int := if 20 < l.length then 2 else if l.all fun t => decide (0 ≤ t) && decide (t ≤ 2147483647) then 0 else 9
theorem timesE_zero {l : List Int} : timesE l = 0 ↔ l.length ≤ 20 ∧ ∀ t ∈ l, 0 ≤ t ∧ t ≤ 2147483647 := by
 unfold timesE
 split
 · constructor
   · intro h; cases h
   · intro h; omega
 · split
   · rename_i h1 h2
     rw [List.all_eq_true] at h2
     refine ⟨fun _ => ⟨by omega, fun t ht => by simpa using h2 t ht⟩, fun _ => rfl⟩
   · rename_i h1 h2
     constructor
     · intro h; cases h
     · intro h; exfalso; apply h2; rw [List.all_eq_true]; intro t ht; simpa using h.2 t ht
theorem prune_times_eq (l : List Int) : prune_times F l = some (timesE l) := by
 unfold prune_times timesE
 by_cases h : 20 < l.length
 · rw [if_pos h, decide_eq_true (by omega), cond_true]
 · rw [if_neg h, decide_eq_false (by omega), cond_false]
   rw [loop_first l (fun t => if (decide (0 ≤ t) && decide (t ≤ 2147483647)) = true then none else some (Sum.inr 9)) (Sum.inl ()) (by omega) rfl (fun k e hk => ?_) (by simp)]
   · cases hf : l.findSome? fun t => if (decide (0 ≤ t) && decide (t ≤ 2147483647)) = true then none else some (Sum.inr 9 : Unit ⊕ Int) with
     | none =>
      rw [List.findSome?_eq_none_iff] at hf
      rw [if_pos (List.all_eq_true.2 fun t ht => by
       have := hf t ht
       split at this
       · assumption
       · cases this)]; rfl
     | some r =>
      obtain ⟨t, ht, hr⟩ := List.exists_of_findSome?_eq_some hf
      split at hr
      · cases hr
      · rename_i h1
        obtain rfl := Option.some.inj hr
        rw [if_neg (fun h2 => h1 (List.all_eq_true.1 h2 t ht))]; rfl
   · have hkl := (List.getElem?_eq_some_iff.1 hk).1
     rw [decide_eq_true (by omega), cond_true, idx_nat', hk, Option.bind_some, w64 (by omega) (by omega)]
     by_cases h1 : 0 ≤ e ∧ e ≤ 2147483647
     · rw [show (decide (e < 0) || decide ((2147483647 : Int) < e)) = false by rw [Bool.or_eq_false_iff]; simp; omega, cond_false, if_pos (by simpa using h1)]
     · rw [show (decide (e < 0) || decide ((2147483647 : Int) < e)) = true by rw [Bool.or_eq_true]; simp; omega, cond_true, if_neg (by simpa using h1)]
def staysR (e : DElem) (ts : List Int) : Bool := (e.gone == 0) || ts.any fun t => live e t
theorem prune_stays_eq (e : DElem) (ts : List Int) (hl : ts.length ≤ 9223372036854775807) : prune_stays F e ts = some (staysR e ts) := by
 unfold prune_stays staysR
 by_cases h : e.gone = 0
 · rw [beq_iff_eq.2 h]; rfl
 · rw [beq_eq_false_iff_ne.2 h, cond_false, Bool.false_or]
   rw [loop_first ts (fun t => if live e t = true then some (Sum.inr true) else none) (Sum.inl ()) hl rfl (fun k x hk => ?_) (by simp)]
   · cases hf : ts.findSome? fun t => if live e t = true then some (Sum.inr true : Unit ⊕ Bool) else none with
     | none =>
      rw [List.findSome?_eq_none_iff] at hf
      rw [show (ts.any fun t => live e t) = false by
       rw [List.any_eq_false]; intro t ht hv; have := hf t ht; rw [if_pos hv] at this; cases this]; rfl
     | some r =>
      obtain ⟨t, ht, hr⟩ := List.exists_of_findSome?_eq_some hf
      split at hr
      · rename_i hv
        obtain rfl := Option.some.inj hr
        rw [List.any_eq_true.2 ⟨t, ht, hv⟩]; rfl
      · cases hr
   · have hkl := (List.getElem?_eq_some_iff.1 hk).1
     rw [decide_eq_true (by omega), cond_true, idx_nat', hk, Option.bind_some, w64 (by omega) (by omega), elem_Live_eq, Option.bind_some]
     cases live e x <;> rfl
def keptE (l : List DElem) (ts : List Int) : Int := if chkR l ≠ 0 then chkR l else timesE ts
def keptR (l : List DElem) (ts : List Int) : List DElem := if keptE l ts = 0 then l.filter fun e => staysR e ts else []
theorem keptE_zero {l : List DElem} {ts : List Int} : keptE l ts = 0 ↔ Run l ∧ timesE ts = 0 := by
 unfold keptE
 rw [← chkR_zero]
 split <;> simp_all
theorem prune_Kept_eq (l : List DElem) (ts : List Int) : prune_Kept F l ts = some (keptR l ts, keptE l ts) := by
 unfold prune_Kept keptR
 rw [run_Check_eq, Option.bind_some, prune_times_eq, Option.bind_some]
 by_cases h : chkR l = 0
 · have hE : keptE l ts = timesE ts := by unfold keptE; rw [if_neg (by simpa using h)]
   have hlen := (chkR_zero.1 h).len
   rw [bne0_false h, cond_false, hE]
   by_cases h2 : timesE ts = 0
   · have ht := (timesE_zero.1 h2).1
     rw [bne0_false h2, cond_false, if_pos h2]
     rw [loop_fold l (fun x e => if staysR e ts then x ++ [e] else x) [] (r := l.filter fun e => staysR e ts) (by omega) rfl (fun k e hk => ?_) (by rw [foldl_filter, List.nil_append]; simp), Option.bind_some, h2]
     have hkl := (List.getElem?_eq_some_iff.1 hk).1
     have hfl : ((l.take k).foldl (fun x e => if staysR e ts then x ++ [e] else x) []).length ≤ 400 := by
      rw [foldl_filter, List.nil_append]
      have := List.length_filter_le (fun e => staysR e ts) (l.take k)
      rw [List.length_take] at this
      omega
     generalize (l.take k).foldl (fun x e => if staysR e ts then x ++ [e] else x) [] = acc at hfl
     dsimp only
     rw [decide_eq_true (by omega), cond_true, idx_nat', hk, Option.bind_some, prune_stays_eq e ts (by omega), Option.bind_some, w64 (by omega) (by omega)]
     cases hv : staysR e ts
     · rfl
     · rw [cond_true, grow_ok (by simp; omega) (by simp; omega)]; rfl
   · rw [bne0_true h2, cond_true, if_neg h2]
 · have hE : keptE l ts = chkR l := by unfold keptE; rw [if_pos h]
   rw [bne0_true h, cond_true, hE, if_neg h]
end Go.Proofs.Ytcmkdoahkncakaa
namespace Go.Proofs.Ytcmkdoahkncakaa
set_option linter.unusedVariables false
set_option linter.unusedSimpArgs false
def goneX (F : Nat) (t : DTree) (keep : List Int) (n : Int) : Option (List DSpot) :=
 (
  (
   (fixD (σ := (List DSpot) × Int) (ρ := (List DSpot) × Nat) (fun rf2 x => match x with
    | (x1, x2) =>
     (idx t.nodes x2).bind fun e1 =>
      (iter (σ := (List DSpot) × Int) (ρ := ((List DSpot)) ⊕ ((List DSpot) × Nat)) (fun x => match x with
       | (x3, x4) =>
        bif decide (x4 < (e1.elems.length : Int)) then
         (idx e1.elems x4).bind fun e2 =>
         (
          (
           bif ((x3.length : Int) == n) then
            some (x3, (0 + 1))
            else
             (prune_stays F e2 keep).bind fun r4 =>
             bif (!r4) then
              (elem_Spot e2).bind fun r5 =>
              (grow 32 x3 [r5]).bind fun _ =>
              some ((x3 ++ [r5]), 0)
             else
              some (x3, 0) : Option ((List DSpot) × Nat)).bind fun z => match z with
           | (z6, k4) =>
            natCase k4 (
             some (z6, 0))
             fun k5 =>
             some (z6, (k5 + 1)) : Option ((List DSpot) × Nat)).bind fun z => match z with
          | (z5, k3) =>
           natCase k3 (
            some (.inl (z5, IntKind.i64.wrap (x4 + 1))))
            fun k6 =>
            some (.inr (.inr (z5, (k6 + 1))))
         else
          some (.inr (.inl x3))) F (x1, 0)).bind fun z => match z with
       | .inl z4 =>
        (iter (σ := (List DSpot) × Int) (ρ := ((List DSpot)) ⊕ ((List DSpot) × Nat)) (fun x => match x with
         | (x5, x6) =>
          bif decide (x6 < (e1.kids.length : Int)) then
           (idx e1.kids x6).bind fun e3 =>
           (
            (rf2 (x5, e3)).bind fun z => match z with
             | (z9, z10) =>
              natCase z10 (
               some (z9, 0))
               fun k8 =>
               some (z9, (k8 + 1)) : Option ((List DSpot) × Nat)).bind fun z => match z with
            | (z8, k7) =>
             natCase k7 (
              some (.inl (z8, IntKind.i64.wrap (x6 + 1))))
              fun k9 =>
              some (.inr (.inr (z8, (k9 + 1))))
           else
            some (.inr (.inl x5))) F (z4, 0)).bind fun z => match z with
         | .inl z7 =>
          some (z7, 0)
         | .inr q => some q
       | .inr q => some q) F ([], t.root)).bind fun z => match z with
    | (z11, z12) =>
     natCase z12 (
      some (z11, 0))
      fun k10 =>
      some (z11, (k10 + 1)) : Option ((List DSpot) × Nat)).bind fun z => match z with
   | (z2, k1) =>
    natCase k1 (
     some z2)
     fun k11 =>
     some z2 : Option ((List DSpot)))
def outsX (F : Nat) (gone : List DSpot) (t : DTree) : Option (Int × NL) :=
 (iter (σ := Int × (List (Int ⊕ DNode)) × Int) (ρ := Int × (List (Int ⊕ DNode))) (fun x => match x with
  | (x7, x8, x9) =>
   bif decide (x9 < (gone.length : Int)) then
    (idx gone x9).bind fun e4 =>
    (outX F e4 x8 x7).bind fun z => match z with
     | (z15, z16) =>
      some (.inl (z16, z15, IntKind.i64.wrap (x9 + 1)))
    else
     some (.inr (x7, x8))) F (t.root, (t.nodes.map Sum.inr), 0))
variable {F : Nat} [Big F]
def notK (keep : List Int) (e : DElem) : Bool := !staysR e keep
def stepG (keep : List Int) (n : Int) (st : List DSpot) (e : DElem) : List DSpot × Nat := if (st.length : Int) = n then (st, 1) else if staysR e keep then (st, 0) else (st ++ [spotE e], 0)
def goneR (l : List DElem) (keep : List Int) (n : Nat) : List DSpot := ((l.filter (notK keep)).take n).map spotE
theorem stepG_run (keep : List Int) (n : Nat) : ∀ (l : List DElem) (a : List DSpot), a.length ≤ n → (runX (stepG keep n) l a).1 = a ++ goneR l keep (n - a.length) := by
 intro l
 induction l with
 | nil => intro a _; simp [runX, goneR]
 | cons e l ih =>
  intro a ha
  rw [runX]
  by_cases h1 : a.length = n
  · have e1 : stepG keep n a e = (a, 1) := by unfold stepG; rw [if_pos (by omega)]
    rw [e1, if_neg (show ¬ (1 : Nat) = 0 by decide), h1, Nat.sub_self]
    simp [goneR]
  · by_cases h2 : staysR e keep = true
    · have e1 : stepG keep n a e = (a, 0) := by unfold stepG; rw [if_neg (by omega), if_pos h2]
      rw [e1, if_pos rfl, ih a ha]
      unfold goneR
      rw [List.filter_cons_of_neg (by unfold notK; simp [h2])]
    · have e1 : stepG keep n a e = (a ++ [spotE e], 0) := by unfold stepG; rw [if_neg (by omega), if_neg h2]
      rw [e1, if_pos rfl, ih _ (by simp; omega)]
      unfold goneR
      rw [List.filter_cons_of_pos (by unfold notK; simp [h2]), List.length_append, List.length_singleton, show n - a.length = (n - (a.length + 1)) + 1 by omega, List.take_succ_cons, List.map_cons, List.append_assoc]
      rfl
theorem goneX_eq {t : DTree} {h : Nat} (hg : Good t h) (keep : List Int) (hk : keep.length ≤ 9223372036854775807) (n : Nat) : goneX F t keep (n : Int) = some (goneR (elemsAt t.nodes h t.root) keep n) := by
 have hlen : ∀ (a : List DSpot) (e : DElem), List.length (stepG keep n a e).1 ≤ List.length a + 1 := fun a e => by
  unfold stepG
  split
  · show a.length ≤ _; omega
  · split
    · show a.length ≤ _; omega
    · simp
 unfold goneX
 rw [fix_spec (σ := List DSpot × Int) (fun m x => preE t.nodes List.length m x) (fun m x => runX (stepG keep n) (elemsF t.nodes m x.2) x.1) ?h0 ?hstep F _ (preE_root hg List.length [] rfl)]
 case h0 =>
  rintro ⟨x1, x2⟩ ⟨⟨h, d, s, hm, _⟩, _⟩
  omega
 case hstep =>
  rintro m self ih ⟨x1, x2⟩ hpre
  obtain ⟨⟨h0, h1⟩, hkids⟩ := hpre.1.kids hg.chk
  dsimp only at h0 h1 hkids ⊢
  have hmem := nd_mem h0 h1
  obtain ⟨h8, h8'⟩ := small8 (hg.chk _ hmem)
  rw [nd_get h0 h1, Option.bind_some]
  rw [iter_runX (stepG keep n) (nd t.nodes x2).elems (fun (st : List DSpot) k => (st, k)) Sum.inl (fun st n => Sum.inr (st, n + 1)) x1 (by omega) rfl ?hs ?he]
  case hs =>
   intro k e y hk' hr
   have hkl := (List.getElem?_eq_some_iff.1 hk').1
   have hyl := preE_elems hpre hlen hk' hr
   dsimp only
   rw [decide_eq_true (by omega), cond_true, idx_nat', hk', Option.bind_some, w64 (by omega) (by omega)]
   unfold stepG
   by_cases hn : (y.length : Int) = n
   · rw [if_pos hn, show ((y.length : Int) == (n : Int)) = true by rw [beq_iff_eq]; exact hn, cond_true]; rfl
   · rw [if_neg hn, show ((y.length : Int) == (n : Int)) = false by rw [beq_eq_false_iff_ne]; exact hn, cond_false, prune_stays_eq e keep hk, Option.bind_some]
     cases staysR e keep with
     | true => rfl
     | false =>
      rw [Bool.not_false, cond_true, elem_Spot_eq, Option.bind_some, grow_ok (by simp; omega) (by simp; omega), Option.bind_some]; rfl
  case he =>
   intro y hr
   dsimp only
   rw [decide_eq_false (by omega)]; rfl
  rw [Option.bind_some, elemsF]
  cases hb : runX (stepG keep n) (nd t.nodes x2).elems x1 with
  | mk b c =>
   rw [runX_append, hb]
   cases c with
   | succ c => rfl
   | zero =>
    dsimp only [natCase]
    rw [if_pos rfl]
    rw [iter_runX (fun st k => runX (stepG keep n) (elemsF t.nodes m k) st) (nd t.nodes x2).kids (fun (st : List DSpot) k => (st, k)) Sum.inl (fun st n => Sum.inr (st, n + 1)) b (by omega) rfl ?hs2 ?he2]
    case hs2 =>
     intro k e y hk2 hr
     have hkl := (List.getElem?_eq_some_iff.1 hk2).1
     dsimp only
     rw [decide_eq_true (by omega), cond_true, idx_nat', hk2, Option.bind_some, ih (y, e) (preE_kid hg.chk hpre hlen hb hk2 hr), Option.bind_some, w64 (by omega) (by omega)]
     dsimp only
     cases hc : runX (stepG keep n) (elemsF t.nodes m e) y with
     | mk y c => cases c <;> rfl
    case he2 =>
     intro y hr
     dsimp only
     rw [decide_eq_false (by omega)]; rfl
    rw [Option.bind_some, runX_flatMap]
    cases hc : runX (stepG keep n) ((nd t.nodes x2).kids.flatMap (elemsF t.nodes m)) b with
    | mk y c => cases c <;> rfl
 rw [Option.bind_some]
 dsimp only
 rw [each_root hg]
 have hrun := stepG_run keep n (elemsAt t.nodes h t.root) [] (Nat.zero_le _)
 rw [List.nil_append, List.length_nil, Nat.sub_zero] at hrun
 cases hc : runX (stepG keep n) (elemsAt t.nodes h t.root) [] with
 | mk y c =>
  rw [hc] at hrun
  rw [← hrun]
  cases c <;> rfl
def lessS (g : List DSpot) (e : DElem) : Bool := !(decide (spotE e ∈ g))
theorem lessS_snoc (A : List DSpot) (b : DSpot) (x : DElem) : lessS (A ++ [b]) x = (notS b x && lessS A x) := by
 unfold lessS notS
 rw [Bool.eq_iff_iff]
 simp [not_or, and_comm]
theorem outsX_good {t : DTree} {h : Nat} (hg : Good t h) (g : List DSpot) (hl : g.length ≤ 100000) : ∃ (root : Int) (N : NL), outsX F g t = some (root, N) ∧ allN N = some (fN N) ∧ ∃ h', Good ⟨root, fN N⟩ h' ∧ elemsAt (fN N) h' root = (elemsAt t.nodes h t.root).filter (lessS g) := by
 have hF := (inferInstance : Big F).le
 unfold outsX
 generalize hf : (fun x : Int × (List (Int ⊕ DNode)) × Int => match x with
  | (x7, x8, x9) =>
   bif decide (x9 < (g.length : Int)) then
    (idx g x9).bind fun e4 =>
    (outX F e4 x8 x7).bind fun z => match z with
     | (z15, z16) =>
      (some (.inl (z16, z15, IntKind.i64.wrap (x9 + 1))) : Option ((Int × (List (Int ⊕ DNode)) × Int) ⊕ (Int × (List (Int ⊕ DNode)))))
    else
     some (.inr (x7, x8))) = f
 have key : ∀ (k : Nat), k ≤ g.length → ∃ (t' : DTree) (h' : Nat), (∀ n : Nat, iter f (n + k) (t.root, nlT t, 0) = iter f n (t'.root, nlT t', (k : Int))) ∧ Good t' h' ∧ elemsAt t'.nodes h' t'.root = (elemsAt t.nodes h t.root).filter (lessS (g.take k)) := by
  intro k
  induction k with
  | zero =>
   intro _
   refine ⟨t, h, fun n => rfl, hg, ?_⟩
   exact (List.filter_eq_self.2 fun x _ => by unfold lessS; simp).symm
  | succ k ih =>
   intro hk
   obtain ⟨t1, h1, i1, i2, i3⟩ := ih (by omega)
   obtain ⟨root, N, o1, o2, h2, o3, o4⟩ := outX_good (F := F) (sp := g[k]'(by omega)) i2
   have hgk : g[k]? = some (g[k]'(by omega)) := List.getElem?_eq_getElem (by omega)
   have hN : nlT ⟨root, fN N⟩ = N := by
    have := allN_some o2
    unfold nlT
    exact this.symm
   refine ⟨⟨root, fN N⟩, h2, fun n => ?_, o3, ?_⟩
   · rw [show n + (k + 1) = (n + 1) + k by omega, i1, iter]
     have hstep : f (t1.root, nlT t1, (k : Int)) = some (.inl (root, N, ((k + 1 : Nat) : Int))) := by
      rw [← hf]
      dsimp only
      rw [decide_eq_true (by omega), cond_true, idx_nat', hgk, Option.bind_some, o1, Option.bind_some]
      dsimp only
      rw [w64 (by omega) (by omega)]; rfl
     rw [hstep, hN]
   · show elemsAt (fN N) h2 root = _
     rw [o4, i3, List.filter_filter, List.take_add_one, hgk]
     congr 1
     funext x
     rw [Option.toList_some, lessS_snoc]
 obtain ⟨t', h', i1, i2, i3⟩ := key g.length (Nat.le_refl _)
 rw [List.take_length] at i3
 refine ⟨t'.root, nlT t', ?_, ?_, h', ?_, ?_⟩
 · show iter f F (t.root, nlT t, 0) = _
   rw [show F = ((F - g.length - 1) + 1) + g.length by omega, i1, iter]
   have hend : f (t'.root, nlT t', (g.length : Int)) = some (.inr (t'.root, nlT t')) := by
    rw [← hf]
    dsimp only
    rw [decide_eq_false (by omega), cond_false]
   rw [hend]
 · rw [fN_nl]; exact allN_map _
 · rw [fN_nl]; exact i2
 · rw [fN_nl]; exact i3
omit [Big F] in
theorem prune_Step_eq (t : DTree) (keep : List Int) (n : Int) : prune_Step F t keep n = (past_Check F t).bind fun r1 => bif (r1 != 0) then some ((DTree.mk 0 []), 0, r1) else (prune_times F keep).bind fun r2 => bif (r2 != 0) then some ((DTree.mk 0 []), 0, r2) else
 bif decide (n < 0) then some ((DTree.mk 0 []), 0, 1) else (goneX F t keep n).bind fun z1 => (tree_Copy F t).bind fun r6 => (outsX F z1 r6).bind fun z => match z with | (z13, z14) => (allN z14).bind fun l2 => some ((DTree.mk z13 l2), (z1.length : Int), 0) := rfl
theorem pastC_good {t : DTree} {h : Nat} (hg : Good t h) : past_Check F t = some (chkR (elemsAt t.nodes h t.root)) := by
 unfold past_Check
 rw [tree_All_good (chk_small hg) hg, Option.bind_some]
 dsimp only
 rw [show ((0 : Int) != 0) = false from rfl, cond_false, run_Check_eq]; rfl
theorem prune_Step_good {t : DTree} {h : Nat} (hg : Good t h) (hr : chkR (elemsAt t.nodes h t.root) = 0) {keep : List Int} (hk : timesE keep = 0) (n : Nat) :
 ∃ t' h', prune_Step F t keep (n : Int) = some (t', ((goneR (elemsAt t.nodes h t.root) keep n).length : Int), 0) ∧ Good t' h' ∧ elemsAt t'.nodes h' t'.root = (elemsAt t.nodes h t.root).filter (lessS (goneR (elemsAt t.nodes h t.root) keep n)) := by
 have hkl := (timesE_zero.1 hk).1
 have hsm := good_small hg
 have hgl : (goneR (elemsAt t.nodes h t.root) keep n).length ≤ 100000 := by
  unfold goneR
  rw [List.length_map, List.length_take]
  have := List.length_filter_le (notK keep) (elemsAt t.nodes h t.root)
  omega
 obtain ⟨root, N, o1, o2, h', o3, o4⟩ := outsX_good (F := F) hg _ hgl
 refine ⟨⟨root, fN N⟩, h', ?_, o3, o4⟩
 rw [prune_Step_eq, pastC_good hg, Option.bind_some, hr, bne0_false rfl, cond_false, prune_times_eq, Option.bind_some, hk, bne0_false rfl, cond_false, decide_eq_false (by omega), cond_false, goneX_eq hg keep (by omega), Option.bind_some, tree_Copy_eq hg.len hg.chk, Option.bind_some, o1, Option.bind_some]
 dsimp only
 rw [o2, Option.bind_some]
end Go.Proofs.Ytcmkdoahkncakaa
namespace Go.Proofs.Ytcmkdoahkncakaa
set_option linter.unusedVariables false
end Go.Proofs.Ytcmkdoahkncakaa
namespace Go.Proofs.Ytcmkdoahkncakaa
set_option linter.unusedVariables false
set_option linter.unusedSimpArgs false
variable {F : Nat} [Big F]
theorem equalF {α : Type} [DecidableEq α] (test : α → α → Bool) (ht : ∀ x y, test x y = true ↔ x = y) (p q : List α) (hp : p.length ≤ 9223372036854775807) :
 (bif ((p.length : Int) != (q.length : Int)) then
  some false
 else
  (iter (σ := Int) (ρ := (Unit) ⊕ Bool) (fun x1 =>
   bif decide (x1 < (p.length : Int)) then
    (idx p x1).bind fun e1 =>
    (idx q x1).bind fun e2 =>
    bif (!(test e1 e2)) then
     some (.inr (.inr false))
    else
     some (.inl (IntKind.i64.wrap (x1 + 1)))
    else
     some (.inr (.inl ()))) F 0).bind fun z => match z with
  | .inl _ =>
   some true
  | .inr q => some q) = some (decide (p = q)) := by
 by_cases hl : p.length = q.length
 · rw [show ((p.length : Int) != (q.length : Int)) = false by rw [bne_eq_false_iff_eq]; omega, cond_false]
   obtain ⟨W, hW⟩ : ∃ W : Nat → α → Option (Unit ⊕ Bool), ∀ k e, W k e = if q[k]? = some e then none else some (Sum.inr false) := ⟨_, fun _ _ => rfl⟩
   rw [loop_find p W (Sum.inl ()) hp rfl (fun k e hk _ => ?_) (by simp)]
   · by_cases he : p = q
     · subst he
       rw [find_none.2 fun k e hk => by rw [hW, if_pos hk], decide_eq_true rfl]; rfl
     · rw [decide_eq_false he]
       cases hf : p.zipIdx.findSome? fun a => W a.2 a.1 with
       | some r =>
        obtain ⟨k, e, _, hr⟩ := find_some hf
        rw [hW] at hr
        split at hr
        · cases hr
        · obtain rfl := Option.some.inj hr; rfl
       | none =>
        exfalso
        apply he
        rw [find_none] at hf
        apply List.ext_getElem?
        intro k
        cases hk : p[k]? with
        | none => rw [List.getElem?_eq_none_iff] at hk; rw [List.getElem?_eq_none (by omega)]
        | some e =>
         have := hf k e hk
         rw [hW] at this
         split at this
         · rename_i h; exact h.symm
         · cases this
   · have hkl := (List.getElem?_eq_some_iff.1 hk).1
     have hq : q[k]? = some (q[k]'(by omega)) := List.getElem?_eq_getElem (by omega)
     rw [decide_eq_true (by omega), cond_true, idx_nat', idx_nat', hk, hq, Option.bind_some, Option.bind_some, w64 (by omega) (by omega), hW]
     by_cases he : q[k]'(by omega) = e
     · rw [if_pos (by rw [hq, he]), (ht _ _).2 he.symm]; rfl
     · have hf : test e (q[k]'(by omega)) = false := by
        cases hx : test e (q[k]'(by omega))
        · rfl
        · exact absurd ((ht _ _).1 hx).symm he
       rw [if_neg (by rw [hq]; simpa using he), hf]; rfl
 · rw [show ((p.length : Int) != (q.length : Int)) = true by rw [bne_iff_ne]; omega, cond_true, decide_eq_false (fun e => hl (by rw [e]))]
theorem eqElem (p q : List DElem) (hp : p.length ≤ 9223372036854775807) : slices_Equal_Elem F p q = some (decide (p = q)) := equalF (fun x y => x == y) (fun x y => by simp) p q hp
end Go.Proofs.Ytcmkdoahkncakaa
namespace Go.Proofs.Ytcmkdoahkncakaa
set_option linter.unusedVariables false
set_option linter.unusedSimpArgs false
variable {F : Nat} [Big F]
theorem within_nat {n m : Int} (hm : 0 < m) (hn : m ≤ 1000000) : ∃ r : Nat, annalkeep_Within n m = some (r : Int) ∧ (r : Int) < m := by
 unfold annalkeep_Within toDiv
 have e1 : IntKind.u64.wrap m = m := by simp [IntKind.wrap, IntKind.bits, IntKind.signed]; omega
 have e2 : 0 ≤ IntKind.u64.wrap n := by simp [IntKind.wrap, IntKind.bits, IntKind.signed]; omega
 rw [e1, if_neg (by omega), Option.bind_some]
 have h3 := Int.tmod_nonneg m e2
 have h4 := Int.tmod_lt_of_pos (IntKind.u64.wrap n) hm
 refine ⟨((IntKind.u64.wrap n).tmod m).toNat, ?_, by omega⟩
 rw [w64 (by omega) (by omega)]
 congr 1; omega
theorem build_ok {l : List DElem} (h : ¬ 400 < l.length) (hb : badR l = none) : ofR l = (buildT l, 0) := by
 unfold ofR; rw [if_neg h, hb]
theorem of_eq {l : List DElem} (hl : l.length ≤ 400) (ho : ∀ e ∈ l, chkE e = 0) (hp : l.Pairwise SpO) : annalkeep_of F l = some (buildT l) := by
 unfold annalkeep_of
 rw [build_Of_eq, Option.bind_some, build_ok (by omega) (badR_none.2 ⟨ho, hp⟩)]
theorem good_smalls {t : DTree} {h : Nat} (hg : Good t h) : ∀ n ∈ t.nodes, Small n := fun n hn => small_chk (hg.chk n hn)
theorem one_leaf {l : List DElem} (hl : l.length ≤ 8) (ho : ∀ e ∈ l, chkE e = 0) (hp : l.Pairwise SpO) : Good (buildT l) 0 ∧ elemsAt (buildT l).nodes 0 (buildT l).root = l ∧ (buildT l).nodes.length = 1 := by
 obtain ⟨h, hg, he, hn, h1, hm⟩ := buildT_spec (by omega) ho hp
 have h0 : h = 0 := by
  cases h with
  | zero => rfl
  | succ h => have := hm 0 (by omega); rw [cN, kOf_one hl] at this; omega
 subst h0
 exact ⟨hg, he, by rw [hn, sNk, cN, kOf_one hl]⟩
theorem one_ok {e : DElem} (h : chkE e = 0) : (∀ x ∈ [e], chkE x = 0) ∧ [e].Pairwise SpO := ⟨fun x hx => by rw [List.mem_singleton.1 hx]; exact h, List.pairwise_singleton _ _⟩
theorem equal_refl {l : List DElem} (h : l.length ≤ 9223372036854775807) : slices_Equal_Elem F l l = some true := by rw [eqElem l l h]; simp
end Go.Proofs.Ytcmkdoahkncakaa
namespace Go.Proofs.Ytcmkdoahkncakaa
set_option linter.unusedVariables false
set_option linter.unusedSimpArgs false
variable {F : Nat} [Big F]
theorem lessS_iff {g : List DSpot} {e : DElem} : lessS g e = true ↔ spotE e ∉ g := by unfold lessS; simp
theorem mem_goneR {l : List DElem} (ho : l.Pairwise SpO) {keep : List Int} {n : Nat} {e : DElem} (he : e ∈ l) : spotE e ∈ goneR l keep n ↔ e ∈ (l.filter (notK keep)).take n := by
 unfold goneR
 rw [List.mem_map]
 constructor
 · rintro ⟨y, hy, hs⟩
   have hyl : y ∈ l := (List.mem_filter.1 (List.mem_of_mem_take hy)).1
   rw [← spo_spot ho hyl he hs]; exact hy
 · intro h
   exact ⟨e, h, rfl⟩
theorem notK_iff {keep : List Int} {e : DElem} : notK keep e = true ↔ staysR e keep = false := by unfold notK; simp
theorem gone_keeps {l : List DElem} (ho : l.Pairwise SpO) (keep : List Int) (n : Nat) : (l.filter (lessS (goneR l keep n))).filter (fun e => staysR e keep) = l.filter (fun e => staysR e keep) := by
 rw [List.filter_filter]
 refine List.filter_congr fun e he => ?_
 cases hs : staysR e keep with
 | false => rfl
 | true =>
  rw [Bool.true_and, lessS_iff, mem_goneR ho he]
  intro hm
  have := notK_iff.1 (List.mem_filter.1 (List.mem_of_mem_take hm)).2
  rw [hs] at this; cases this
theorem gone_all {l : List DElem} (ho : l.Pairwise SpO) {keep : List Int} {n : Nat} (hn : (goneR l keep n).length < n) : l.filter (lessS (goneR l keep n)) = l.filter (fun e => staysR e keep) := by
 refine List.filter_congr fun e he => ?_
 have ht : (l.filter (notK keep)).take n = l.filter (notK keep) := by
  refine List.take_of_length_le ?_
  unfold goneR at hn
  rw [List.length_map, List.length_take] at hn
  omega
 rw [Bool.eq_iff_iff, lessS_iff, mem_goneR ho he, ht, List.mem_filter, notK_iff]
 cases staysR e keep <;> simp [he]
theorem gone_less {l : List DElem} {keep : List Int} {n : Nat} (hn : 0 < (goneR l keep n).length) : (l.filter (lessS (goneR l keep n))).length < l.length := by
 obtain ⟨s, hs⟩ := List.exists_mem_of_length_pos hn
 have hs' := hs
 unfold goneR at hs
 obtain ⟨e, he, rfl⟩ := List.mem_map.1 hs
 refine List.length_filter_lt_length_iff_exists.2 ⟨e, (List.mem_filter.1 (List.mem_of_mem_take he)).1, fun h => lessS_iff.1 h hs'⟩
theorem annalkeep_PruneSteps_true (F : Nat) [Big F] (t : DTree) (keep : List Int) (n : Int) (ok : okTree t) (okk : okAllW 8 (okInt .i64) keep) (okn : okInt .i64 n) : annalkeep_PruneSteps F t keep n = some true := by
 have hs := small_tree ok
 obtain ⟨x, hx⟩ : ∃ x : DElem, x = DElem.mk (DKey.mk 0 0 1) 1 3 (ByteArray.mk #[]) := ⟨_, rfl⟩
 have hcx : chkE x = 0 := by rw [hx]; decide
 obtain ⟨ho, hp⟩ := one_ok hcx
 obtain ⟨hg, he, hn⟩ := one_leaf (l := [x]) (by simp) ho hp
 have hrx : chkR [x] = 0 := by rw [hx]; decide
 obtain ⟨t1, h1, k1, k2, k3⟩ := prune_Step_good (F := F) hg (by rw [he]; exact hrx) (keep := []) (by decide) 5
 rw [he] at k1
 have hgx : (goneR [x] [] 5).length = 1 := by rw [hx]; rfl
 rw [hgx] at k1
 unfold annalkeep_PruneSteps
 rw [← hx, of_eq (by simp) ho hp, Option.bind_some, show (5 : Int) = ((5 : Nat) : Int) from rfl, k1, Option.bind_some]
 dsimp only
 rw [show ((((1 : Nat) : Int) != 1) || ((0 : Int) != 0)) = false from rfl, cond_false]
 by_cases hc : chkT F t = 0
 rotate_left
 · rw [tree_All_bad hs hc, Option.bind_some]
   dsimp only
   rw [bne0_true hc, cond_true]
 obtain ⟨h, g⟩ := chkT_zero.1 hc
 rw [tree_All_good hs g, Option.bind_some]
 dsimp only
 rw [bne0_false rfl, cond_false, prune_Kept_eq, Option.bind_some]
 dsimp only
 by_cases hz : keptE (elemsAt t.nodes h t.root) keep = 0
 rotate_left
 · rw [bne0_true hz, cond_true]
 obtain ⟨hrun, htm⟩ := keptE_zero.1 hz
 have hsm := good_small g
 have hkept : keptR (elemsAt t.nodes h t.root) keep = (elemsAt t.nodes h t.root).filter (fun e => staysR e keep) := by unfold keptR; rw [if_pos hz]
 rw [bne0_false hz, cond_false, hkept]
 obtain ⟨r, hr1, hr2⟩ := within_nat (n := n) (m := 9) (by omega) (by omega)
 rw [hr1, Option.bind_some, w64 (n := 1 + (r : Int)) (by omega) (by omega), show 1 + (r : Int) = ((r + 1 : Nat) : Int) by omega, w64 (by omega) (by omega)]
 generalize hall : elemsAt t.nodes h t.root = all at *
 refine loop_rec (m := all.length) (q := true) (fun m x q => q = true ∧ 0 ≤ x.2.2 ∧ ∃ h, Good ⟨x.1, x.2.1⟩ h ∧ m = (elemsAt x.2.1 h x.1).length ∧ Run (elemsAt x.2.1 h x.1) ∧ x.2.2 + ((elemsAt x.2.1 h x.1).length : Int) ≤ all.length ∧ (elemsAt x.2.1 h x.1).filter (fun e => staysR e keep) = all.filter (fun e => staysR e keep)) ?_ (by omega) ⟨rfl, Int.le_refl _, h, g, by rw [hall], by rw [hall]; exact hrun, by dsimp only; rw [hall]; omega, by dsimp only; rw [hall]⟩
 rintro m ⟨x1, x2, x3⟩ q ⟨rfl, h0, h', g', rfl, hrun', hle, heq⟩
 dsimp only at h0 g' hrun' hle heq ⊢
 have hord : (elemsAt x2 h' x1).Pairwise SpO := elems_ord g'
 obtain ⟨t', h'', a1, a2, a3⟩ := prune_Step_good (F := F) g' (chkR_zero.2 hrun') htm (r + 1)
 dsimp only at a1 a3
 rw [decide_eq_true (by omega), cond_true, a1, Option.bind_some]
 dsimp only
 have hgl : (goneR (elemsAt x2 h' x1) keep (r + 1)).length ≤ r + 1 := by
  unfold goneR; rw [List.length_map, List.length_take]; omega
 rw [bne0_false rfl, Bool.false_or, decide_eq_false (by omega), cond_false]
 by_cases hlt : (goneR (elemsAt x2 h' x1) keep (r + 1)).length < r + 1
 · left
   refine ⟨.inl (t'.root, t'.nodes), ?_, ?_⟩
   · rw [decide_eq_true (by omega), cond_true]
   · dsimp only
     rw [tree_All_good (good_smalls a2) a2, Option.bind_some]
     dsimp only
     rw [a3, gone_all hord hlt, heq, show ((0 : Int) == 0) = true from rfl, cond_true, equal_refl (by have := List.length_filter_le (fun e => staysR e keep) all; omega), Option.bind_some]
     rfl
 · right
   have hless := gone_less (l := elemsAt x2 h' x1) (keep := keep) (n := r + 1) (by omega)
   refine ⟨_, (t'.root, t'.nodes, x3 + 1), hless, ?_, rfl, ?_, h'', a2, by dsimp only; rw [a3], ?_, ?_, ?_⟩
   · rw [decide_eq_false (by omega), cond_false, w64 (by omega) (by omega)]
   · dsimp only; omega
   · dsimp only; rw [a3]; exact hrun'.sub List.filter_sublist
   · dsimp only; rw [a3]; omega
   · dsimp only; rw [a3, gone_keeps hord]; exact heq
end Go.Proofs.Ytcmkdoahkncakaa
namespace Go.Proofs.Ytcmkdoahkncakaa
open Go.RowKit
theorem prog_own : ownKnob Try.prog.godebug = none := by kernel_rfl
theorem prog_laid : laidOutB Try.prog = true := by kernel_rfl
theorem op26 : Opens Try.prog 26 eKey okKey := opens_key Try.underlying26 (by kernel_rfl) rfl (by kernel_rfl) (opens_int Try.underlying3) rfl (by kernel_rfl) (opens_int Try.underlying3) rfl (by kernel_rfl) (opens_int Try.underlying3)
theorem op28 : Opens Try.prog 28 eElem okElem := opens_elem Try.underlying28 (by kernel_rfl) rfl (by kernel_rfl) op26 rfl (by kernel_rfl) (opens_int Try.underlying3) rfl (by kernel_rfl) (opens_int Try.underlying3) rfl (by kernel_rfl) (opens_str Try.underlying9)
theorem op34 : Opens Try.prog 34 (eList eElem) (okAllW 56 okElem) := opens_list Try.underlying34 (by kernel_rfl) (by kernel_rfl) op28
theorem op47 : Opens Try.prog 47 (eList eInt) (okAllW 8 (okInt .i64)) := opens_list Try.underlying47 (by kernel_rfl) (by kernel_rfl) (opens_int Try.underlying3)
theorem op43 : Opens Try.prog 43 eSpot okSpot := opens_spot Try.underlying43 (by kernel_rfl) rfl (by kernel_rfl) op26 rfl (by kernel_rfl) (opens_int Try.underlying3)
theorem op95 : Opens Try.prog 95 (eList eSpot) (okAllW 32 okSpot) := opens_list Try.underlying95 (by kernel_rfl) (by kernel_rfl) op43
theorem op97 : Opens Try.prog 97 eNode okNode := opens_node Try.underlying97 (by kernel_rfl) rfl (by kernel_rfl) (opens_int Try.underlying3) rfl (by kernel_rfl) op34 rfl (by kernel_rfl) op47 rfl (by kernel_rfl) op95 rfl (by kernel_rfl) op47
theorem op22 : Opens Try.prog 22 (eList eNode) (okAllW 104 okNode) := opens_list Try.underlying22 (by kernel_rfl) (by kernel_rfl) op97
theorem op24 : Opens Try.prog 24 eTree okTree := opens_tree Try.underlying24 (by kernel_rfl) rfl (by kernel_rfl) (opens_int Try.underlying3) rfl (by kernel_rfl) op22
set_option maxRecDepth 100000
def orderSigns : List Char := [.ofNat 104, .ofNat 97, .ofNat 114, .ofNat 110, .ofNat 101, .ofNat 115, .ofNat 115, .ofNat 32, .ofNat 99, .ofNat 101, .ofNat 99, .ofNat 102, .ofNat 54, .ofNat 48, .ofNat 102, .ofNat 51, .ofNat 55, .ofNat 50, .ofNat 101, .ofNat 51, .ofNat 100, .ofNat 49, .ofNat 52, .ofNat 50, .ofNat 50, .ofNat 55, .ofNat 56, .ofNat 55, .ofNat 56, .ofNat 48, .ofNat 54, .ofNat 102, .ofNat 57, .ofNat 56, .ofNat 52, .ofNat 57, .ofNat 100, .ofNat 99, .ofNat 53, .ofNat 97, .ofNat 51, .ofNat 52, .ofNat 52, .ofNat 55, .ofNat 100, .ofNat 55, .ofNat 51, .ofNat 53, .ofNat 56, .ofNat 54, .ofNat 102, .ofNat 102, .ofNat 51, .ofNat 49, .ofNat 50, .ofNat 100, .ofNat 57, .ofNat 100, .ofNat 102, .ofNat 55, .ofNat 50, .ofNat 99, .ofNat 53, .ofNat 101, .ofNat 54, .ofNat 50, .ofNat 55, .ofNat 100, .ofNat 54, .ofNat 55, .ofNat 55, .ofNat 101, .ofNat 32, .ofNat 99, .ofNat 117, .ofNat 116, .ofNat 32, .ofNat 97, .ofNat 116, .ofNat 32, .ofNat 97, .ofNat 110, .ofNat 110, .ofNat 97, .ofNat 108, .ofNat 105, .ofNat 115, .ofNat 116, .ofNat 47, .ofNat 97, .ofNat 110, .ofNat 110, .ofNat 97, .ofNat 108, .ofNat 107, .ofNat 101, .ofNat 101, .ofNat 112, .ofNat 46, .ofNat 71, .ofNat 114, .ofNat 111, .ofNat 119, .ofNat 83, .ofNat 101, .ofNat 116, .ofNat 115, .ofNat 32, .ofNat 97, .ofNat 110, .ofNat 110, .ofNat 97, .ofNat 108, .ofNat 105, .ofNat 115, .ofNat 116, .ofNat 47, .ofNat 97, .ofNat 110, .ofNat 110, .ofNat 97, .ofNat 108, .ofNat 107, .ofNat 101, .ofNat 101, .ofNat 112, .ofNat 46, .ofNat 83, .ofNat 104, .ofNat 114, .ofNat 105, .ofNat 110, .ofNat 107, .ofNat 83, .ofNat 111, .ofNat 109, .ofNat 101, .ofNat 32, .ofNat 97, .ofNat 110, .ofNat 110, .ofNat 97, .ofNat 108, .ofNat 105, .ofNat 115, .ofNat 116, .ofNat 47, .ofNat 97, .ofNat 110, .ofNat 110, .ofNat 97, .ofNat 108, .ofNat 107, .ofNat 101, .ofNat 101, .ofNat 112, .ofNat 46, .ofNat 83, .ofNat 104, .ofNat 114, .ofNat 105, .ofNat 110, .ofNat 107, .ofNat 65, .ofNat 108, .ofNat 108, .ofNat 32, .ofNat 97, .ofNat 110, .ofNat 110, .ofNat 97, .ofNat 108, .ofNat 105, .ofNat 115, .ofNat 116, .ofNat 47, .ofNat 97, .ofNat 110, .ofNat 110, .ofNat 97, .ofNat 108, .ofNat 107, .ofNat 101, .ofNat 101, .ofNat 112, .ofNat 46, .ofNat 80, .ofNat 114, .ofNat 117, .ofNat 110, .ofNat 101, .ofNat 83, .ofNat 116, .ofNat 101, .ofNat 112, .ofNat 115, .ofNat 32, .ofNat 97, .ofNat 110, .ofNat 110, .ofNat 97, .ofNat 108, .ofNat 105, .ofNat 115, .ofNat 116, .ofNat 47, .ofNat 97, .ofNat 110, .ofNat 110, .ofNat 97, .ofNat 108, .ofNat 107, .ofNat 101, .ofNat 101, .ofNat 112, .ofNat 46, .ofNat 71, .ofNat 114, .ofNat 111, .ofNat 119, .ofNat 79, .ofNat 114, .ofNat 100, .ofNat 101, .ofNat 114, .ofNat 115, .ofNat 32, .ofNat 97, .ofNat 110, .ofNat 110, .ofNat 97, .ofNat 108, .ofNat 105, .ofNat 115, .ofNat 116, .ofNat 47, .ofNat 97, .ofNat 110, .ofNat 110, .ofNat 97, .ofNat 108, .ofNat 107, .ofNat 101, .ofNat 101, .ofNat 112, .ofNat 46, .ofNat 84, .ofNat 114, .ofNat 101, .ofNat 101, .ofNat 69, .ofNat 109, .ofNat 112, .ofNat 116, .ofNat 121, .ofNat 32, .ofNat 97, .ofNat 110, .ofNat 110, .ofNat 97, .ofNat 108, .ofNat 105, .ofNat 115, .ofNat 116, .ofNat 47, .ofNat 97, .ofNat 110, .ofNat 110, .ofNat 97, .ofNat 108, .ofNat 107, .ofNat 101, .ofNat 101, .ofNat 112, .ofNat 46, .ofNat 71, .ofNat 114, .ofNat 111, .ofNat 119, .ofNat 77, .ofNat 97, .ofNat 110, .ofNat 121, .ofNat 32, .ofNat 97, .ofNat 110, .ofNat 110, .ofNat 97, .ofNat 108, .ofNat 105, .ofNat 115, .ofNat 116, .ofNat 47, .ofNat 97, .ofNat 110, .ofNat 110, .ofNat 97, .ofNat 108, .ofNat 107, .ofNat 101, .ofNat 101, .ofNat 112, .ofNat 46, .ofNat 84, .ofNat 114, .ofNat 101, .ofNat 101, .ofNat 70, .ofNat 117, .ofNat 108, .ofNat 108, .ofNat 32, .ofNat 97, .ofNat 110, .ofNat 110, .ofNat 97, .ofNat 108, .ofNat 105, .ofNat 115, .ofNat 116, .ofNat 47, .ofNat 97, .ofNat 110, .ofNat 110, .ofNat 97, .ofNat 108, .ofNat 107, .ofNat 101, .ofNat 101, .ofNat 112, .ofNat 46, .ofNat 71, .ofNat 114, .ofNat 111, .ofNat 119, .ofNat 83, .ofNat 104, .ofNat 114, .ofNat 105, .ofNat 110, .ofNat 107, .ofNat 115, .ofNat 32, .ofNat 97, .ofNat 110, .ofNat 110, .ofNat 97, .ofNat 108, .ofNat 105, .ofNat 115, .ofNat 116, .ofNat 47, .ofNat 97, .ofNat 110, .ofNat 110, .ofNat 97, .ofNat 108, .ofNat 107, .ofNat 101, .ofNat 101, .ofNat 112, .ofNat 46, .ofNat 87, .ofNat 114, .ofNat 105, .ofNat 116, .ofNat 101, .ofNat 80, .ofNat 97, .ofNat 115, .ofNat 116, .ofNat 32, .ofNat 97, .ofNat 110, .ofNat 110, .ofNat 97, .ofNat 108, .ofNat 105, .ofNat 115, .ofNat 116, .ofNat 47, .ofNat 97, .ofNat 110, .ofNat 110, .ofNat 97, .ofNat 108, .ofNat 107, .ofNat 101, .ofNat 101, .ofNat 112, .ofNat 46, .ofNat 87, .ofNat 114, .ofNat 105, .ofNat 116, .ofNat 101, .ofNat 83, .ofNat 97, .ofNat 109, .ofNat 101]
theorem order_text : Try.prog.initOrder = "harness cecf60f372e3d1422787806f9849dc5a3447d73586ff312d9df72c5e627d677e cut at annalist/annalkeep.GrowSets annalist/annalkeep.ShrinkSome annalist/annalkeep.ShrinkAll annalist/annalkeep.PruneSteps annalist/annalkeep.GrowOrders annalist/annalkeep.TreeEmpty annalist/annalkeep.GrowMany annalist/annalkeep.TreeFull annalist/annalkeep.GrowShrinks annalist/annalkeep.WritePast annalist/annalkeep.WriteSame" := by kernel_rfl
theorem order_signs : ("harness cecf60f372e3d1422787806f9849dc5a3447d73586ff312d9df72c5e627d677e cut at annalist/annalkeep.GrowSets annalist/annalkeep.ShrinkSome annalist/annalkeep.ShrinkAll annalist/annalkeep.PruneSteps annalist/annalkeep.GrowOrders annalist/annalkeep.TreeEmpty annalist/annalkeep.GrowMany annalist/annalkeep.TreeFull annalist/annalkeep.GrowShrinks annalist/annalkeep.WritePast annalist/annalkeep.WriteSame" : String) = String.ofList orderSigns := by kernel_rfl
theorem prog_order : Try.prog.initOrder.toList = orderSigns := by rw [order_text, order_signs]; exact String.toList_ofList
theorem make_of (P : Program) (h : P.initOrder.toList = orderSigns) : P.make = some .cut := by
 unfold Program.make Program.headLifts
 rw [h]
 kernel_rfl
theorem lifts_of (P : Program) (h : P.initOrder.toList = orderSigns) : P.liftsFinal = false := by
 unfold Program.liftsFinal Program.headLifts
 rw [h]
 kernel_rfl
theorem enter_of (P : Program) (h : P.initOrder.toList = orderSigns) (h1 : P.laysLater = false) (h2 : P.bearsReflect = false) (h3 : P.doorFits [] = true) : P.mayEnter = true := by
 unfold Program.mayEnter
 rw [h, h1, h2]
 have e : (stripLifts liftWords (behindMainWord (wordsSigns orderSigns))).1 = [] := by kernel_rfl
 have e0 : behindMainWord (wordsSigns orderSigns) = "cut".toList :: (behindMainWord (wordsSigns orderSigns)).tail := by kernel_rfl
 rw [e0] at e ⊢
 dsimp only
 rw [e, h3]
 clear h h1 h2 h3
 change _ = true
 kernel_rfl
theorem prog_make : Try.prog.make = some .cut := make_of _ prog_order
theorem prog_lifts : Try.prog.liftsFinal = false := lifts_of _ prog_order
theorem prog_enter : Try.prog.mayEnter = true := enter_of _ prog_order (by kernel_rfl) (by kernel_rfl) (by kernel_rfl)
end Go.Proofs.Ytcmkdoahkncakaa
