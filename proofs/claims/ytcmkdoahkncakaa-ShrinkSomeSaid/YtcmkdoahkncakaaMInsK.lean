/- Plain Lean: a record of a tree is set. Its conditions: none. -/
import Derived.Test.YtcmkdoahkncakaaMEditK
import Derived.Test.YtcmkdoahkncakaaPTreeK
import Derived.Test.YtcmkdoahkncakaaPBuildK
import Derived.Test.YtcmkdoahkncakaaInsK
namespace Go.Proofs.Ytcmkdoahkncakaa
set_option linter.unusedVariables false
set_option linter.unusedSimpArgs false
def setE (e x : DElem) : DElem := if spotE x = spotE e then e else x
structure ChgPost (e : DElem) (N N' : NL) (h : Nat) (i : Int) (m : Nat) (s : Span) : Prop where
 len : N'.length = N.length
 out : ∀ j, j ∉ ids (fN N) h i → N'[j]? = N[j]?
 kinds : ∀ j, kd N' j = kd N j
 chk : ChkL N'
 sub : SubT (fN N') h i m s
 ids : ids (fN N') h i = ids (fN N) h i
 elems : elemsAt (fN N') h i = (elemsAt (fN N) h i).map (setE e)
variable {F : Nat} [Big F]
theorem leaf_chk {n : DNode} (h1 : n.kind = 1) (h2 : Leaf n) : chkN n = 0 := chkN_zero.2 (.inr (.inl ⟨h1, h2⟩))
theorem inner_chk {n : DNode} (h1 : n.kind = 2) (h2 : Inner n) : chkN n = 0 := chkN_zero.2 (.inr (.inr ⟨h1, h2⟩))
theorem nd_chk {N : NL} (h : ChkL N) {i : Int} (hi : 0 ≤ i ∧ i < ((fN N).length : Int)) : chkN (nd (fN N) i) = 0 := h _ (nd_mem hi.1 hi.2)
theorem great_node {N : NL} (h : ChkL N) {i : Int} (hi : 0 ≤ i ∧ i < ((fN N).length : Int)) : node_Greatest F (nd (fN N) i) = some (greatR (nd (fN N) i)) := node_Greatest_eq _ (small_chk (nd_chk h hi))
end Go.Proofs.Ytcmkdoahkncakaa
namespace Go.Proofs.Ytcmkdoahkncakaa
set_option linter.unusedVariables false
set_option linter.unusedSimpArgs false
def usedB (x : Int ⊕ DNode) : Bool := kindN x != 0
def used (N : NL) : Nat := N.countP usedB
theorem usedB_iff {x : Int ⊕ DNode} : usedB x = true ↔ kindN x ≠ 0 := by unfold usedB; simp
theorem used_set {N : NL} {i : Nat} {x : Int ⊕ DNode} (y : Int ⊕ DNode) (h : N[i]? = some x) : used (N.set i y) + (if usedB x then 1 else 0) = used N + (if usedB y then 1 else 0) := by
 unfold used
 induction N generalizing i with
 | nil => simp at h
 | cons a N ih =>
  cases i with
  | zero =>
   obtain rfl : a = x := by simpa using h
   rw [List.set_cons_zero, List.countP_cons, List.countP_cons]; omega
  | succ i =>
   have := ih (i := i) (by simpa using h)
   rw [List.set_cons_succ, List.countP_cons, List.countP_cons]; omega
theorem used_same {N : NL} {i : Nat} {x y : Int ⊕ DNode} (h : N[i]? = some x) (hx : kindN x ≠ 0) (hy : kindN y ≠ 0) : used (N.set i y) = used N := by
 have := used_set y h
 rw [if_pos (usedB_iff.2 hx), if_pos (usedB_iff.2 hy)] at this
 omega
theorem used_out (N : NL) (i : Int) : used (outAt N i) = used N := by
 unfold outAt
 rcases Nat.lt_or_ge i.toNat N.length with h | h
 · have hg := List.getElem?_eq_getElem h
   have := used_set (.inl (((N[i.toNat]?).map kindN).getD 0)) hg
   have e : usedB (.inl (((N[i.toNat]?).map kindN).getD 0)) = usedB N[i.toNat] := by rw [hg]; rfl
   rw [e] at this
   omega
 · rw [List.set_eq_of_length_le h]
theorem kd_some {N : NL} {j : Nat} {x : Int ⊕ DNode} (h : N[j]? = some x) : kd N j = some (kindN x) := by unfold kd; rw [h]; rfl
theorem kd_at {N : NL} {j : Nat} {k : Int} (h : kd N j = some k) : ∃ x, N[j]? = some x ∧ kindN x = k := Option.map_eq_some_iff.1 h
theorem used_all {N : NL} (h : ∀ (j : Nat) (x : Int ⊕ DNode), N[j]? = some x → kindN x ≠ 0) : used N = N.length :=
 List.countP_eq_length.2 fun x hx => by
  obtain ⟨j, hj⟩ := List.mem_iff_getElem?.1 hx
  exact usedB_iff.2 (h j x hj)
structure Fr2 (N N' : NL) (I K : List Nat) (c : Nat) : Prop where
 len : N.length ≤ N'.length
 cap : N'.length ≤ max N.length (used N')
 use : used N' ≤ used N + c
 out : ∀ (j : Nat) (x : Int ⊕ DNode), j ∉ I → N[j]? = some x → kindN x ≠ 0 → N'[j]? = some x
 kept : ∀ (j : Nat) (x : Int ⊕ DNode), N[j]? = some x → kindN x ≠ 0 → ∃ y, N'[j]? = some y ∧ kindN y ≠ 0
 new : ∀ j ∈ K, j ∈ I ∨ ∀ x : Int ⊕ DNode, N[j]? = some x → kindN x = 0
 all : ∀ (j : Nat) (x : Int ⊕ DNode), N'[j]? = some x → kindN x ≠ 0 → j ∈ K ∨ (j ∉ I ∧ ∃ y, N[j]? = some y ∧ kindN y ≠ 0)
 nodup : K.Nodup
 chk : ChkL N'
 zero : ∀ j : Nat, N'[j]? = some (.inl 0) → N[j]? = some (.inl 0)
theorem Fr2.perm {N N' : NL} {I K K' : List Nat} {c : Nat} (h : Fr2 N N' I K c) (p : K.Perm K') : Fr2 N N' I K' c :=
 ⟨h.len, h.cap, h.use, h.out, h.kept, fun j hj => h.new j (p.mem_iff.2 hj), fun j x hx hk => (h.all j x hx hk).imp (fun q => p.mem_iff.1 q) id, p.nodup_iff.1 h.nodup, h.chk, h.zero⟩
theorem Fr2.more {N N' : NL} {I K : List Nat} {c c' : Nat} (h : Fr2 N N' I K c) (hc : c ≤ c') : Fr2 N N' I K c' :=
 ⟨h.len, h.cap, Nat.le_trans h.use (by omega), h.out, h.kept, h.new, h.all, h.nodup, h.chk, h.zero⟩
theorem SubT.used {N : NL} : ∀ {h : Nat} {i : Int} {m : Nat} {s : Span}, SubT (fN N) h i m s → ∀ j ∈ ids (fN N) h i, ∃ n, N[j]? = some (.inr n) ∧ n.kind ≠ 0 := by
 intro h
 induction h with
 | zero =>
  intro i m s c j hj
  obtain rfl : j = i.toNat := by simpa [ids] using hj
  exact ⟨_, c.node.2, c.kind⟩
 | succ h ih =>
  intro i m s c j hj
  rw [ids] at hj
  rcases List.mem_cons.1 hj with rfl | hj
  · exact ⟨_, c.node.2, c.kind⟩
  · obtain ⟨k, hk, hj⟩ := List.mem_flatMap.1 hj
    obtain ⟨t, s', x, _⟩ := c.2.2.2.mem k hk
    exact ih x.1 j hj
theorem Fr2.start {N : NL} (hc : ChkL N) {i : Int} {n : DNode} (hi : N[i.toNat]? = some (.inr n)) (hk : n.kind ≠ 0) : Fr2 N (outAt N i) [i.toNat] [i.toNat] 0 := by
 refine ⟨by rw [outAt_length]; exact Nat.le_refl _, by rw [outAt_length]; exact Nat.le_max_left _ _, by rw [used_out]; exact Nat.le_refl _, fun j x hj hx _ => by rw [outAt_get N (by simpa using hj)]; exact hx, fun j x hx hk => ?_, fun j hj => .inl hj, fun j x hx hk => ?_, by simp, hc.out i, fun j hj => ?_⟩
 · have := outAt_kd N i j
   rw [kd_some hx] at this
   obtain ⟨y, hy, hyk⟩ := kd_at this
   exact ⟨y, hy, by rw [hyk]; exact hk⟩
 · by_cases hji : j = i.toNat
   · exact .inl (by simp [hji])
   · rw [outAt_get N hji] at hx
     exact .inr ⟨by simpa using hji, x, hx, hk⟩
 · by_cases hji : j = i.toNat
   · subst hji
     have := outAt_kd N i i.toNat
     rw [kd_some hj, kd_some hi] at this
     exact absurd (Option.some.inj this).symm hk
   · rw [outAt_get N hji] at hj; exact hj
theorem Fr2.up {N N2 : NL} {i : Nat} {I1 I2 I3 K : List Nat} {c : Nat} {i' : Int} (hi : i'.toNat = i) (f : Fr2 (outAt N i') N2 I2 K c) (hn : (i :: (I1 ++ (I2 ++ I3))).Nodup) (hu : ∀ j ∈ i :: (I1 ++ (I2 ++ I3)), ∃ n : DNode, N[j]? = some (.inr n) ∧ n.kind ≠ 0) :
 Fr2 N N2 (i :: (I1 ++ (I2 ++ I3))) (i :: (I1 ++ (K ++ I3))) c := by
 have hk : ∀ (j : Nat) (x : Int ⊕ DNode), N[j]? = some x → kindN x ≠ 0 → ∃ y, (outAt N i')[j]? = some y ∧ kindN y ≠ 0 := fun j x hx hxk => by
  have := outAt_kd N i' j
  rw [kd_some hx] at this
  obtain ⟨y, hy, hyk⟩ := kd_at this
  exact ⟨y, hy, by rw [hyk]; exact hxk⟩
 have hk' : ∀ (j : Nat) (x : Int ⊕ DNode), (outAt N i')[j]? = some x → kindN x ≠ 0 → ∃ y, N[j]? = some y ∧ kindN y ≠ 0 := fun j x hx hxk => by
  have := outAt_kd N i' j
  rw [kd_some hx] at this
  obtain ⟨y, hy, hyk⟩ := kd_at this.symm
  exact ⟨y, hy, by rw [hyk]; exact hxk⟩
 have hK : ∀ j ∈ K, j ∈ I2 ∨ ∀ x : Int ⊕ DNode, N[j]? = some x → kindN x = 0 := fun j hj => (f.new j hj).imp id fun h x hx => by
  by_cases h0 : kindN x = 0
  · exact h0
  · obtain ⟨y, hy, hyk⟩ := hk j x hx h0
    exact absurd (h y hy) hyk
 obtain ⟨n1, n2⟩ := List.nodup_cons.1 hn
 obtain ⟨n3, n4, n5⟩ := List.nodup_append.1 n2
 obtain ⟨n6, n7, n8⟩ := List.nodup_append.1 n4
 have hKu : ∀ j ∈ K, j ∉ I2 → ∀ n : DNode, N[j]? = some (.inr n) → n.kind = 0 := fun j hj hj2 n hx => by
  rcases hK j hj with h | h
  · exact absurd h hj2
  · exact h _ hx
 have hne : ∀ j ∈ K, j ∈ i :: (I1 ++ (I2 ++ I3)) → j ∈ I2 := fun j hj hm => by
  by_cases h2 : j ∈ I2
  · exact h2
  · obtain ⟨n, hx, hnk⟩ := hu j hm
    exact absurd (hKu j hj h2 n hx) hnk
 refine ⟨by have := f.len; rwa [outAt_length] at this, by have := f.cap; rwa [outAt_length] at this, by have := f.use; rwa [used_out] at this, fun j x hj hx hxk => ?_, fun j x hx hxk => ?_, fun j hj => ?_, fun j x hx hxk => ?_, ?_, f.chk, fun j hj => ?_⟩
 · simp only [List.mem_cons, List.mem_append, not_or] at hj
   exact f.out j x hj.2.2.1 (by rw [outAt_get N (by omega)]; exact hx) hxk
 · obtain ⟨y, hy, hyk⟩ := hk j x hx hxk
   exact f.kept j y hy hyk
 · simp only [List.mem_cons, List.mem_append] at hj ⊢
   rcases hj with h | h | h | h
   · exact .inl (.inl h)
   · exact .inl (.inr (.inl h))
   · exact (hK j h).imp (fun h => .inr (.inr (.inl h))) id
   · exact .inl (.inr (.inr (.inr h)))
 · simp only [List.mem_cons, List.mem_append, not_or]
   rcases f.all j x hx hxk with h | ⟨h, y, hy, hyk⟩
   · exact .inl (.inr (.inr (.inl h)))
   · by_cases h0 : j = i
     · exact .inl (.inl h0)
     by_cases h1 : j ∈ I1
     · exact .inl (.inr (.inl h1))
     by_cases h3 : j ∈ I3
     · exact .inl (.inr (.inr (.inr h3)))
     · exact .inr ⟨⟨h0, h1, h, h3⟩, hk' j y hy hyk⟩
 · refine List.nodup_cons.2 ⟨fun hm => ?_, List.nodup_append.2 ⟨n3, List.nodup_append.2 ⟨f.nodup, n7, fun a ha b hb e => ?_⟩, fun a ha b hb e => ?_⟩⟩
   · simp only [List.mem_append, not_or] at hm n1
     rcases hm with h | h | h
     · exact n1.1 h
     · exact n1.2.1 (hne i h List.mem_cons_self)
     · exact n1.2.2 h
   · subst e
     exact n8 a (hne a ha (by simp [hb])) a hb rfl
   · subst e
     rcases List.mem_append.1 hb with h | h
     · exact n5 a ha a (List.mem_append_left _ (hne a h (by simp [ha]))) rfl
     · exact n5 a ha a (List.mem_append_right _ h) rfl
 · have h0 := f.zero j hj
   by_cases hji : j = i'.toNat
   · subst hji
     obtain ⟨n, hx, hnk⟩ := hu i List.mem_cons_self
     rw [← hi] at hx
     have := outAt_kd N i' i'.toNat
     rw [kd_some h0, kd_some hx] at this
     exact absurd (Option.some.inj this).symm hnk
   · rw [outAt_get N hji] at h0; exact h0
theorem Fr2.put {N N2 : NL} {I K : List Nat} {c : Nat} (f : Fr2 N N2 I K c) {i : Int} (hI : i.toNat ∈ I) (hK : i.toNat ∈ K) {x : Int ⊕ DNode} (hx : N2[i.toNat]? = some x) (hxk : kindN x ≠ 0) {n : DNode} (hn : n.kind ≠ 0) (hc : chkN n = 0) : Fr2 N (putAt N2 i n) I K c := by
 have hlt := (List.getElem?_eq_some_iff.1 hx).1
 have hu : used (putAt N2 i n) = used N2 := used_same hx hxk hn
 refine ⟨by rw [putAt_length]; exact f.len, by rw [putAt_length, hu]; exact f.cap, by rw [hu]; exact f.use, fun j y hj hy hyk => ?_, fun j y hy hyk => ?_, f.new, fun j y hy hyk => ?_, f.nodup, f.chk.put hc, fun j hj => ?_⟩
 · rw [putAt_get N2 (show j ≠ i.toNat from fun e => hj (by rw [e]; exact hI))]; exact f.out j y hj hy hyk
 · by_cases hji : j = i.toNat
   · subst hji; exact ⟨_, putAt_self N2 hlt, hn⟩
   · rw [putAt_get N2 hji]; exact f.kept j y hy hyk
 · by_cases hji : j = i.toNat
   · subst hji; exact .inl hK
   · rw [putAt_get N2 hji] at hy; exact f.all j y hy hyk
 · by_cases hji : j = i.toNat
   · subst hji; rw [putAt_self N2 hlt] at hj; cases hj
   · rw [putAt_get N2 hji] at hj; exact f.zero j hj
structure TakeP (N : NL) (n : DNode) (N' : NL) (j : Nat) : Prop where
 at_ : N'[j]? = some (.inr n)
 same : ∀ q, q ≠ j → N'[q]? = N[q]?
 free : ∀ x : Int ⊕ DNode, N[j]? = some x → kindN x = 0
 len : N'.length = N.length ∨ N'.length = N.length + 1 ∧ j = N.length ∧ ∀ (q : Nat) (x : Int ⊕ DNode), N[q]? = some x → kindN x ≠ 0
 use : kindN (.inr n) ≠ 0 → used N' = used N + 1
theorem Fr2.take {N N2 N' : NL} {I K : List Nat} {c : Nat} (f : Fr2 N N2 I K c) {n : DNode} {j : Nat} (t : TakeP N2 n N' j) (hn : n.kind ≠ 0) (hc : chkN n = 0) (hK : ∀ q ∈ K, ∃ x, N2[q]? = some x ∧ kindN x ≠ 0) : Fr2 N N' I (j :: K) (c + 1) := by
 have hu := t.use hn
 have hjN : ∀ x : Int ⊕ DNode, N[j]? = some x → kindN x = 0 := fun x hx => by
  by_cases h0 : kindN x = 0
  · exact h0
  · obtain ⟨y, hy, hyk⟩ := f.kept j x hx h0
    exact absurd (t.free y hy) hyk
 have hlen : N2.length ≤ N'.length := by rcases t.len with h | ⟨h, _⟩ <;> omega
 refine ⟨Nat.le_trans f.len hlen, ?_, by rw [hu]; have := f.use; omega, fun q x hq hx hxk => ?_, fun q x hx hxk => ?_, fun q hq => ?_, fun q x hx hxk => ?_, List.nodup_cons.2 ⟨fun hj => ?_, f.nodup⟩, fun m hm => ?_, fun q hq => ?_⟩
 · rcases t.len with h | ⟨h, _, ha⟩
   · rw [h, hu]; have := f.cap; omega
   · have := used_all ha
     rw [hu, h, this]; omega
 · have h1 := f.out q x hq hx hxk
   by_cases hqj : q = j
   · subst hqj; exact absurd (hjN x hx) hxk
   · rw [t.same q hqj]; exact h1
 · obtain ⟨y, hy, hyk⟩ := f.kept q x hx hxk
   by_cases hqj : q = j
   · subst hqj; exact ⟨_, t.at_, hn⟩
   · exact ⟨y, by rw [t.same q hqj]; exact hy, hyk⟩
 · rcases List.mem_cons.1 hq with rfl | hq
   · exact .inr hjN
   · exact f.new q hq
 · by_cases hqj : q = j
   · subst hqj; exact .inl List.mem_cons_self
   · rw [t.same q hqj] at hx
     exact (f.all q x hx hxk).imp (List.mem_cons_of_mem _) id
 · obtain ⟨x, hx, hxk⟩ := hK j hj
   exact hxk (t.free x hx)
 · obtain ⟨x, hx, rfl⟩ := List.mem_map.1 hm
   obtain ⟨q, hq⟩ := List.mem_iff_getElem?.1 hx
   by_cases hqj : q = j
   · subst hqj
     rw [t.at_] at hq
     obtain rfl := Option.some.inj hq
     exact hc
   · rw [t.same q hqj] at hq
     exact f.chk _ (List.mem_map.2 ⟨x, List.mem_of_getElem? hq, rfl⟩)
 · by_cases hqj : q = j
   · subst hqj; rw [t.at_] at hq; cases hq
   · rw [t.same q hqj] at hq; exact f.zero q hq
end Go.Proofs.Ytcmkdoahkncakaa
