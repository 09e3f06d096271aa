/- Plain Lean: a record of a tree is set. Its conditions: none. -/
import Derived.Test.YtcmkdoahkncakaaMEditJ
import Derived.Test.YtcmkdoahkncakaaPTreeJ
import Derived.Test.YtcmkdoahkncakaaPBuildJ
namespace Go.Proofs.Ytcmkdoahkncakaa
set_option linter.unusedVariables false
set_option linter.unusedSimpArgs false

def setE (e x : DElem) : DElem := if spotE x = spotE e then e else x
theorem setE_spot (e x : DElem) : spotE (setE e x) = spotE x := by
  unfold setE
  split
  · rename_i h; exact h.symm
  · rfl
theorem setE_ok {e x : DElem} (he : chkE e = 0) (hx : chkE x = 0) : chkE (setE e x) = 0 := by
  unfold setE; split <;> assumption
theorem setE_sorted {e : DElem} {l : List DElem} (h : l.Pairwise SpO) : (l.map (setE e)).Pairwise SpO := by
  rw [List.pairwise_map]
  exact h.imp fun {a b} hab => by unfold SpO at hab ⊢; rw [setE_spot, setE_spot]; exact hab
theorem setE_other {e : DElem} {l : List DElem} (h : ∀ x ∈ l, spotE x ≠ spotE e) : l.map (setE e) = l := by
  conv => rhs; rw [← List.map_id l]
  exact List.map_congr_left fun x hx => by unfold setE; rw [if_neg (h x hx)]; rfl
/-- What stays of a part of a tree whose records are set. -/
structure ChgPost (e : DElem) (N N' : NL) (h : Nat) (i : Int) (m : Nat) (s : Span) : Prop where
  len : N'.length = N.length
  out : ∀ j, j ∉ ids (fN N) h i → N'[j]? = N[j]?
  kinds : ∀ j, kd N' j = kd N j
  chk : ChkL N'
  sub : SubT (fN N') h i m s
  ids : ids (fN N') h i = ids (fN N) h i
  elems : elemsAt (fN N') h i = (elemsAt (fN N) h i).map (setE e)

def chgB (F : Nat) (e : DElem) (rf1 : NL × Int → Option NL) (x : NL × Int) : Option NL :=
  match x with
        | (x1, x2) =>
          (nodeAt x1 x2).bind fun n1 =>
            bif (n1.kind == 1) then
              (iter (σ := (List DElem) × Int) (ρ := (List DElem)) (fun x => match x with
                | (x3, x4) =>
                  bif decide (x4 < (n1.elems.length : Int)) then
                      (
                        (idx x3 x4).bind fun e1 =>
                          (elem_Spot e1).bind fun r8 =>
                          (elem_Spot e).bind fun r9 =>
                          bif (r8 == r9) then
                            (idx x3 x4).bind fun e2 =>
                            some (x3.set x4.toNat e)
                          else
                            some x3 : Option ((List DElem))).bind fun z3 =>
                      some (.inl (z3, IntKind.i64.wrap (x4 + 1)))
                    else
                      some (.inr x3)) F (n1.elems, 0)).bind fun z2 =>
              (fitN n1 (DNode.mk n1.kind z2 n1.kids n1.seps n1.tids)).bind fun u1 =>
              some (putAt (outAt x1 x2) x2 (DNode.mk n1.kind z2 n1.kids n1.seps n1.tids))
            else
              (elem_Spot e).bind fun r10 =>
              (node_Way F n1 r10).bind fun r11 =>
              (idx n1.kids r11).bind fun e3 =>
              (rf1 ((outAt x1 x2), e3)).bind fun z4 =>
              (idx n1.kids r11).bind fun e4 =>
              (nodeAt z4 e4).bind fun n2 =>
              (node_Greatest F n2).bind fun r12 =>
              (idx n1.tids r11).bind fun e5 =>
              (fitN n1 (DNode.mk n1.kind n1.elems n1.kids n1.seps (n1.tids.set r11.toNat r12))).bind fun u2 =>
              some (putAt z4 x2 (DNode.mk n1.kind n1.elems n1.kids n1.seps (n1.tids.set r11.toNat r12)))
variable {F : Nat} [Big F]
theorem fitN_ok {a b : DNode} (h1 : a.elems.length = b.elems.length) (h2 : a.kids.length = b.kids.length) (h3 : a.seps.length = b.seps.length) (h4 : a.tids.length = b.tids.length) : fitN a b = some () := by
  unfold fitN; rw [if_pos ⟨h1, h2, h3, h4⟩]
theorem leaf_chk {n : DNode} (h1 : n.kind = 1) (h2 : Leaf n) : chkN n = 0 := chkN_zero.2 (.inr (.inl ⟨h1, h2⟩))
theorem inner_chk {n : DNode} (h1 : n.kind = 2) (h2 : Inner n) : chkN n = 0 := chkN_zero.2 (.inr (.inr ⟨h1, h2⟩))
theorem nd_chk {N : NL} (h : ChkL N) {i : Int} (hi : 0 ≤ i ∧ i < ((fN N).length : Int)) : chkN (nd (fN N) i) = 0 := h _ (nd_mem hi.1 hi.2)
theorem great_node {N : NL} (h : ChkL N) {i : Int} (hi : 0 ≤ i ∧ i < ((fN N).length : Int)) : node_Greatest F (nd (fN N) i) = some (greatR (nd (fN N) i)) := node_Greatest_eq _ (small_chk (nd_chk h hi))
theorem set_loop (l : List DElem) (e : DElem) (hl : l.length ≤ 8) :
    iter (σ := (List DElem) × Int) (ρ := (List DElem)) (fun x => match x with
                | (x3, x4) =>
                  bif decide (x4 < (l.length : Int)) then
                      (
                        (idx x3 x4).bind fun e1 =>
                          (elem_Spot e1).bind fun r8 =>
                          (elem_Spot e).bind fun r9 =>
                          bif (r8 == r9) then
                            (idx x3 x4).bind fun e2 =>
                            some (x3.set x4.toNat e)
                          else
                            some x3 : Option ((List DElem))).bind fun z3 =>
                      some (.inl (z3, IntKind.i64.wrap (x4 + 1)))
                    else
                      some (.inr x3)) F (l, 0) = some (l.map (setE e)) := by
  refine loop_run (fun k => ((l.take k).map (setE e) ++ l.drop k, (k : Int))) l.length (by simp) (by omega) (fun k hk => ?_) ?_
  · have hs : l.drop k = l[k] :: l.drop (k + 1) := List.drop_eq_getElem_cons hk
    have hlen : ((l.take k).map (setE e)).length = k := by rw [List.length_map, List.length_take]; omega
    have hi : idx ((l.take k).map (setE e) ++ l.drop k) (k : Int) = some l[k] := by
      rw [hs]
      have := idx_mid ((l.take k).map (setE e)) l[k] (l.drop (k + 1))
      rwa [hlen] at this
    have ht : l.take (k + 1) = l.take k ++ [l[k]] := by rw [List.take_add_one, List.getElem?_eq_getElem hk]; rfl
    dsimp only
    rw [decide_eq_true (by omega), cond_true, hi, Option.bind_some, elem_Spot_eq, Option.bind_some, elem_Spot_eq, Option.bind_some, w64 (by omega) (by omega), ht, List.map_append, List.append_assoc]
    by_cases h : spotE l[k] = spotE e
    · rw [show (spotE l[k] == spotE e) = true by simpa using h, cond_true, Option.bind_some, Option.bind_some, Int.toNat_natCast, hs]
      have := set_len ((l.take k).map (setE e)) l[k] e (l.drop (k + 1))
      rw [hlen] at this
      rw [this]
      show _ = some (Sum.inl ((l.take k).map (setE e) ++ ([setE e l[k]] ++ l.drop (k + 1)), _))
      unfold setE
      rw [if_pos h]; rfl
    · rw [show (spotE l[k] == spotE e) = false by simpa using h, cond_false, Option.bind_some]
      show _ = some (Sum.inl ((l.take k).map (setE e) ++ ([setE e l[k]] ++ l.drop (k + 1)), _))
      rw [hs]
      conv => rhs; unfold setE
      rw [if_neg h]; rfl
  · dsimp only
    rw [decide_eq_false (by omega), cond_false, List.drop_length, List.take_length, List.append_nil]
theorem chg_code {e : DElem} (he : chkE e = 0) : ∀ (h mf : Nat) (N : NL) (i : Int) (m : Nat) (s : Span), h < mf → ChkL N → SubT (fN N) h i m s → (ids (fN N) h i).Nodup → inS s (spotE e) = true →
    ∃ N', fixD (chgB F e) mf (N, i) = some N' ∧ ChgPost e N N' h i m s := by
  intro h
  induction h with
  | zero =>
    intro mf N i m s hm hc c hn hs
    obtain ⟨mf, rfl⟩ : ∃ q, mf = q + 1 := ⟨mf - 1, by omega⟩
    have L := c.leaf hc
    have hr := c.range
    rw [fN_length] at hr
    obtain ⟨hnode, hat⟩ := c.node
    have hk1 := c.2.1
    have L' : Leaf ⟨1, (nd (fN N) i).elems.map (setE e), (nd (fN N) i).kids, (nd (fN N) i).seps, (nd (fN N) i).tids⟩ :=
      ⟨L.kids, L.seps, L.tids, by rw [List.length_map]; exact L.len, fun x hx => by
        obtain ⟨y, hy, rfl⟩ := List.mem_map.1 hx
        exact setE_ok he (L.ok y hy), setE_sorted L.ord⟩
    have hc' := leaf_chk (n := ⟨1, (nd (fN N) i).elems.map (setE e), (nd (fN N) i).kids, (nd (fN N) i).seps, (nd (fN N) i).tids⟩) rfl L'
    have hnd : nd (fN (putAt (outAt N i) i ⟨1, (nd (fN N) i).elems.map (setE e), (nd (fN N) i).kids, (nd (fN N) i).seps, (nd (fN N) i).tids⟩)) i = _ := nd_put (by rw [outAt_length]; exact hr)
    refine ⟨putAt (outAt N i) i ⟨1, (nd (fN N) i).elems.map (setE e), (nd (fN N) i).kids, (nd (fN N) i).seps, (nd (fN N) i).tids⟩, ?_, ?_, ?_, ?_, (hc.out i).put hc', ?_, rfl, ?_⟩
    · show chgB F e (fixD (chgB F e) mf) (N, i) = _
      have hfit : fitN (nd (fN N) i) ⟨1, (nd (fN N) i).elems.map (setE e), (nd (fN N) i).kids, (nd (fN N) i).seps, (nd (fN N) i).tids⟩ = some () := fitN_ok (by simp) rfl rfl rfl
      unfold chgB
      dsimp only
      rw [hnode, Option.bind_some, hk1, show ((1 : Int) == 1) = true from rfl, cond_true, set_loop _ _ L.len, Option.bind_some, hfit, Option.bind_some]
    · rw [putAt_length, outAt_length]
    · intro j hj
      have hji : j ≠ i.toNat := by simpa [ids] using hj
      rw [putAt_get _ hji, outAt_get _ hji]
    · intro j
      by_cases hji : j = i.toNat
      · subst hji
        unfold kd
        rw [putAt_self _ (by rw [outAt_length]; omega), hat]
        show some 1 = some (nd (fN N) i).kind
        rw [hk1]
      · unfold kd; rw [putAt_get _ hji, outAt_get _ hji]
    · refine ⟨?_, by rw [hnd], by rw [hnd, List.length_map]; exact c.2.2.1, ?_⟩
      · rw [fN_length, putAt_length, outAt_length]; exact hr
      · rw [hnd]
        intro x hx
        obtain ⟨y, hy, rfl⟩ := List.mem_map.1 hx
        rw [setE_spot]; exact c.2.2.2 y hy
    · show (nd _ i).elems = _
      rw [hnd]; rfl
  | succ h ih =>
    intro mf N i m s hm hc c hn hs
    obtain ⟨mf, rfl⟩ : ∃ q, mf = q + 1 := ⟨mf - 1, by omega⟩
    have L := c.inner hc
    have hr := c.range
    rw [fN_length] at hr
    obtain ⟨hnode, hat⟩ := c.node
    obtain ⟨_, hk2, hmk, hch⟩ := c
    obtain ⟨A, k, B, XA, XB, TA, t, TB, s', f⟩ := focus1 L.seps L.tids L.ord hch hs
    generalize hnn : nd (fN N) i = n at *
    rw [ids, hnn, f.kids] at hn
    obtain ⟨d1, d2, d3⟩ := nodup_parts hn
    have hN1 : ∀ j ∈ ids (fN N) h k, (outAt N i)[j]? = N[j]? := fun j hj => outAt_get N (fun e => d1 (e ▸ hj))
    obtain ⟨q1, q2, q3, q4⟩ := SubT.agree (N' := outAt N i) (by rw [outAt_length]; exact Nat.le_refl _) f.here.1 hN1
    obtain ⟨N2, hrun, P2⟩ := ih mf (outAt N i) k 4 s' (by omega) (hc.out i) q1 (by rw [q2]; exact d2) f.in_
    have hlen2 : N2.length = N.length := by rw [P2.len, outAt_length]
    obtain ⟨hnode2, _⟩ := P2.sub.node
    have hg := great_ok (nd_chk P2.chk P2.sub.range)
    have hw : wayR n.seps (spotE e) = TA.length := by rw [f.way, f.ta]
    have htids : (n.tids.set TA.length (greatR (nd (fN N2) k))) = TA ++ greatR (nd (fN N2) k) :: TB := by rw [f.tids, set_len]
    have L' : Inner ⟨2, n.elems, n.kids, n.seps, TA ++ greatR (nd (fN N2) k) :: TB⟩ :=
      ⟨L.elems, L.two, L.eight, L.seps, by have h5 := L.tids; rw [f.tids] at h5; simpa using h5, L.kid, fun x hx => by
        rcases List.mem_append.1 hx with hx | hx
        · exact L.tid x (by rw [f.tids]; exact List.mem_append_left _ hx)
        · rcases List.mem_cons.1 hx with rfl | hx
          · exact hg
          · exact L.tid x (by rw [f.tids]; exact List.mem_append_right _ (List.mem_cons_of_mem _ hx)), L.ok, L.ord⟩
    obtain ⟨n', hn'⟩ : ∃ n' : DNode, n' = ⟨2, n.elems, n.kids, n.seps, TA ++ greatR (nd (fN N2) k) :: TB⟩ := ⟨_, rfl⟩
    have e2 : n'.kind = 2 := by rw [hn']
    have ek : n'.kids = n.kids := by rw [hn']
    have es : n'.seps = n.seps := by rw [hn']
    have et : n'.tids = TA ++ greatR (nd (fN N2) k) :: TB := by rw [hn']
    rw [← hn'] at L'
    have hc' := inner_chk e2 L'
    have hnd : nd (fN (putAt N2 i n')) i = n' := nd_put (by rw [hlen2]; exact hr)
    have hi2 : i.toNat ∉ ids (fN N2) h k := by rw [P2.ids, q2]; exact d1
    obtain ⟨r1, r2, r3, r4⟩ := SubT.agree (N' := putAt N2 i n') (by rw [putAt_length]; exact Nat.le_refl _) P2.sub fun j hj => putAt_get N2 (fun e => hi2 (e ▸ hj))
    have other : ∀ a, a ∈ A ∨ a ∈ B → ∀ {m : Nat} {s : Span}, SubT (fN N) h a m s → _ := fun a ha m s c => SubT.agree (N := N) (N' := putAt N2 i n') (by rw [putAt_length, hlen2]; exact Nat.le_refl _) c fun j hj => by
      obtain ⟨x1, x2⟩ := d3 a ha
      have hji : j ≠ i.toNat := fun e => x1 (e ▸ hj)
      rw [putAt_get N2 hji, P2.out j (by rw [q2]; exact x2 j hj), outAt_get N hji]
    have hkids : ∀ a, a ∈ A ∨ a ∈ B → ∃ t' s'', SubT (fN N) h a 4 s'' ∧ (∀ x ∈ elemsAt (fN N) h a, spotE x ≠ spotE e) := fun a ha => by
      rcases ha with ha | ha
      · obtain ⟨t', s'', x1, x2⟩ := f.lo a ha
        exact ⟨t', s'', x1.1, fun x hx e => by have := x2 _ ((x1.1.elems hc).2 x hx).1; rw [e, cmp_cmpS.refl] at this; omega⟩
      · obtain ⟨t', s'', x1, x2⟩ := f.hi a ha
        exact ⟨t', s'', x1.1, fun x hx e => by have := x2 _ ((x1.1.elems hc).2 x hx).1; rw [e, cmp_cmpS.refl] at this; omega⟩
    have flat : ∀ (l : List Int), (∀ a ∈ l, a ∈ A ∨ a ∈ B) → l.flatMap (ids (fN (putAt N2 i n')) h) = l.flatMap (ids (fN N) h) ∧
        l.flatMap (elemsAt (fN (putAt N2 i n')) h) = (l.flatMap (elemsAt (fN N) h)).map (setE e) := fun l hl => by
      constructor
      · exact flat_same fun a ha => by obtain ⟨t', s'', x1, _⟩ := hkids a (hl a ha); exact (other a (hl a ha) x1).2.1
      · rw [List.map_flatMap]
        exact flatMap_same fun a ha => by obtain ⟨t', s'', x1, x2⟩ := hkids a (hl a ha); rw [(other a (hl a ha) x1).2.2.1, setE_other x2]
    refine ⟨putAt N2 i n', ?_, by rw [putAt_length, hlen2], ?_, ?_, P2.chk.put hc', ?_, ?_, ?_⟩
    · rw [hn']
      show chgB F e (fixD (chgB F e) mf) (N, i) = _
      have hfit : fitN n ⟨2, n.elems, n.kids, n.seps, TA ++ greatR (nd (fN N2) k) :: TB⟩ = some () := fitN_ok rfl rfl rfl (by rw [f.tids]; simp)
      generalize fixD (chgB F e) mf = rf at hrun
      unfold chgB
      dsimp only
      rw [hnode, Option.bind_some, hk2, show ((2 : Int) == 1) = false from rfl, cond_false, elem_Spot_eq, Option.bind_some, node_Way_eq n _ (small_chk (inner_chk hk2 L)), Option.bind_some, f.way, f.kids, idx_mid, Option.bind_some, hrun, Option.bind_some, Option.bind_some, hnode2, Option.bind_some, great_node P2.chk P2.sub.range, Option.bind_some, f.tids, ← f.ta, idx_mid, Option.bind_some, Int.toNat_natCast, set_len]
      rw [f.kids] at hfit
      rw [hfit, Option.bind_some]
    · intro j hj
      rw [ids, hnn, f.kids, List.flatMap_append, List.flatMap_cons] at hj
      simp only [List.mem_cons, List.mem_append, not_or] at hj
      rw [putAt_get N2 hj.1, P2.out j (by rw [q2]; exact hj.2.2.1), outAt_get N hj.1]
    · intro j
      by_cases hji : j = i.toNat
      · subst hji
        unfold kd
        rw [putAt_self _ (by rw [hlen2]; omega), hat]
        show some n'.kind = some n.kind
        rw [hk2, e2]
      · have := P2.kinds j
        rw [outAt_kd] at this
        rw [← this]
        unfold kd; rw [putAt_get N2 hji]
    · refine ⟨?_, by rw [hnd, e2], by rw [hnd, ek]; exact hmk, ?_⟩
      · rw [fN_length, putAt_length, hlen2]; exact hr
      · rw [hnd, es, ek, et]
        have := f.turn (KidP (fN (putAt N2 i n')) h) (fun a t' s'' ha x => ⟨(other a ha x.1).1, by rw [(other a ha x.1).2.2.2]; exact x.2⟩) [k] [] [greatR (nd (fN N2) k)] ⟨k, _, rfl, rfl, r1, by rw [r4]⟩
        rw [f.kids, f.seps]
        simpa using this
    · rw [ids, hnd, ids, hnn, ek, f.kids, List.flatMap_append, List.flatMap_cons, List.flatMap_append, List.flatMap_cons, (flat A fun a ha => .inl ha).1, (flat B fun a ha => .inr ha).1, r2, P2.ids, q2]
    · rw [elemsAt, hnd, elemsAt, hnn, ek, f.kids, List.flatMap_append, List.flatMap_cons, List.flatMap_append, List.flatMap_cons, (flat A fun a ha => .inl ha).2, (flat B fun a ha => .inr ha).2, r3, P2.elems, q3, List.map_append, List.map_append]
end Go.Proofs.Ytcmkdoahkncakaa
