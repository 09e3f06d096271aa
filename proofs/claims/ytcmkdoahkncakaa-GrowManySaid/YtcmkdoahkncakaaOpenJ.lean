/- Plain Lean: a record of a tree is set. Its conditions: none. -/
import Derived.Test.YtcmkdoahkncakaaMEditJ
import Derived.Test.YtcmkdoahkncakaaPTreeJ
import Derived.Test.YtcmkdoahkncakaaPBuildJ
import Derived.Test.YtcmkdoahkncakaaInsJ
import Derived.Test.YtcmkdoahkncakaaLookFJ
import Derived.Test.YtcmkdoahkncakaaCpFJ
import Derived.Test.YtcmkdoahkncakaaTreeOJ
import Derived.Test.YtcmkdoahkncakaaRecJ
import Derived.Test.YtcmkdoahkncakaaMapJ
import Derived.Test.YtcmkdoahkncakaaGrowIFJ
import Derived.Test.YtcmkdoahkncakaaEqsFJ
import Derived.Test.YtcmkdoahkncakaaPLoopJ
import Derived.Test.YtcmkdoahkncakaaPackFJ
import Derived.Test.YtcmkdoahkncakaaWGrowManyFJ
import Derived.Test.YtcmkdoahkncakaaPRunJ
import Derived.Test.YtcmkdoahkncakaaRows
import Derived.Test.YtcmkdoahkncakaaLawJ
namespace Go.Proofs.Ytcmkdoahkncakaa
set_option linter.unusedVariables false
set_option linter.unusedSimpArgs false
def setE (e x : DElem) : DElem := if spotE x = spotE e then e else x
structure ChgPost (e : DElem) (N N' : NL) (h : Nat) (i : Int) (m : Nat) (s : Span) : Prop where
 len : N'.length = N.length
 out : ∀ j, j ∉ ids (fN N) h i → N'[j]? = N[j]?
 kinds : ∀ j, kd N' j = kd N j
 chk : ChkL N'
 sub : SubT (fN N') h i m s
 ids : ids (fN N') h i = ids (fN N) h i
 elems : elemsAt (fN N') h i = (elemsAt (fN N) h i).map (setE e)
variable {F : Nat} [Big F]
theorem leaf_chk {n : DNode} (h1 : n.kind = 1) (h2 : Leaf n) : chkN n = 0 := chkN_zero.2 (.inr (.inl ⟨h1, h2⟩))
theorem inner_chk {n : DNode} (h1 : n.kind = 2) (h2 : Inner n) : chkN n = 0 := chkN_zero.2 (.inr (.inr ⟨h1, h2⟩))
theorem nd_chk {N : NL} (h : ChkL N) {i : Int} (hi : 0 ≤ i ∧ i < ((fN N).length : Int)) : chkN (nd (fN N) i) = 0 := h _ (nd_mem hi.1 hi.2)
theorem great_node {N : NL} (h : ChkL N) {i : Int} (hi : 0 ≤ i ∧ i < ((fN N).length : Int)) : node_Greatest F (nd (fN N) i) = some (greatR (nd (fN N) i)) := node_Greatest_eq _ (small_chk (nd_chk h hi))
end Go.Proofs.Ytcmkdoahkncakaa
namespace Go.Proofs.Ytcmkdoahkncakaa
set_option linter.unusedVariables false
set_option linter.unusedSimpArgs false
def usedB (x : Int ⊕ DNode) : Bool := kindN x != 0
def used (N : NL) : Nat := N.countP usedB
theorem usedB_iff {x : Int ⊕ DNode} : usedB x = true ↔ kindN x ≠ 0 := by unfold usedB; simp
theorem used_set {N : NL} {i : Nat} {x : Int ⊕ DNode} (y : Int ⊕ DNode) (h : N[i]? = some x) : used (N.set i y) + (if usedB x then 1 else 0) = used N + (if usedB y then 1 else 0) := by
 unfold used
 induction N generalizing i with
 | nil => simp at h
 | cons a N ih =>
  cases i with
  | zero =>
   obtain rfl : a = x := by simpa using h
   rw [List.set_cons_zero, List.countP_cons, List.countP_cons]; omega
  | succ i =>
   have := ih (i := i) (by simpa using h)
   rw [List.set_cons_succ, List.countP_cons, List.countP_cons]; omega
theorem used_same {N : NL} {i : Nat} {x y : Int ⊕ DNode} (h : N[i]? = some x) (hx : kindN x ≠ 0) (hy : kindN y ≠ 0) : used (N.set i y) = used N := by
 have := used_set y h
 rw [if_pos (usedB_iff.2 hx), if_pos (usedB_iff.2 hy)] at this
 omega
theorem used_out (N : NL) (i : Int) : used (outAt N i) = used N := by
 unfold outAt
 rcases Nat.lt_or_ge i.toNat N.length with h | h
 · have hg := List.getElem?_eq_getElem h
   have := used_set (.inl (((N[i.toNat]?).map kindN).getD 0)) hg
   have e : usedB (.inl (((N[i.toNat]?).map kindN).getD 0)) = usedB N[i.toNat] := by rw [hg]; rfl
   rw [e] at this
   omega
 · rw [List.set_eq_of_length_le h]
theorem kd_some {N : NL} {j : Nat} {x : Int ⊕ DNode} (h : N[j]? = some x) : kd N j = some (kindN x) := by unfold kd; rw [h]; rfl
theorem kd_at {N : NL} {j : Nat} {k : Int} (h : kd N j = some k) : ∃ x, N[j]? = some x ∧ kindN x = k := Option.map_eq_some_iff.1 h
theorem used_all {N : NL} (h : ∀ (j : Nat) (x : Int ⊕ DNode), N[j]? = some x → kindN x ≠ 0) : used N = N.length :=
 List.countP_eq_length.2 fun x hx => by
  obtain ⟨j, hj⟩ := List.mem_iff_getElem?.1 hx
  exact usedB_iff.2 (h j x hj)
structure Fr2 (N N' : NL) (I K : List Nat) (c : Nat) : Prop where
 len : N.length ≤ N'.length
 cap : N'.length ≤ max N.length (used N')
 use : used N' ≤ used N + c
 out : ∀ (j : Nat) (x : Int ⊕ DNode), j ∉ I → N[j]? = some x → kindN x ≠ 0 → N'[j]? = some x
 kept : ∀ (j : Nat) (x : Int ⊕ DNode), N[j]? = some x → kindN x ≠ 0 → ∃ y, N'[j]? = some y ∧ kindN y ≠ 0
 new : ∀ j ∈ K, j ∈ I ∨ ∀ x : Int ⊕ DNode, N[j]? = some x → kindN x = 0
 all : ∀ (j : Nat) (x : Int ⊕ DNode), N'[j]? = some x → kindN x ≠ 0 → j ∈ K ∨ (j ∉ I ∧ ∃ y, N[j]? = some y ∧ kindN y ≠ 0)
 nodup : K.Nodup
 chk : ChkL N'
 zero : ∀ j : Nat, N'[j]? = some (.inl 0) → N[j]? = some (.inl 0)
theorem Fr2.perm {N N' : NL} {I K K' : List Nat} {c : Nat} (h : Fr2 N N' I K c) (p : K.Perm K') : Fr2 N N' I K' c :=
 ⟨h.len, h.cap, h.use, h.out, h.kept, fun j hj => h.new j (p.mem_iff.2 hj), fun j x hx hk => (h.all j x hx hk).imp (fun q => p.mem_iff.1 q) id, p.nodup_iff.1 h.nodup, h.chk, h.zero⟩
theorem Fr2.more {N N' : NL} {I K : List Nat} {c c' : Nat} (h : Fr2 N N' I K c) (hc : c ≤ c') : Fr2 N N' I K c' :=
 ⟨h.len, h.cap, Nat.le_trans h.use (by omega), h.out, h.kept, h.new, h.all, h.nodup, h.chk, h.zero⟩
theorem SubT.used {N : NL} : ∀ {h : Nat} {i : Int} {m : Nat} {s : Span}, SubT (fN N) h i m s → ∀ j ∈ ids (fN N) h i, ∃ n, N[j]? = some (.inr n) ∧ n.kind ≠ 0 := by
 intro h
 induction h with
 | zero =>
  intro i m s c j hj
  obtain rfl : j = i.toNat := by simpa [ids] using hj
  exact ⟨_, c.node.2, c.kind⟩
 | succ h ih =>
  intro i m s c j hj
  rw [ids] at hj
  rcases List.mem_cons.1 hj with rfl | hj
  · exact ⟨_, c.node.2, c.kind⟩
  · obtain ⟨k, hk, hj⟩ := List.mem_flatMap.1 hj
    obtain ⟨t, s', x, _⟩ := c.2.2.2.mem k hk
    exact ih x.1 j hj
theorem Fr2.start {N : NL} (hc : ChkL N) {i : Int} {n : DNode} (hi : N[i.toNat]? = some (.inr n)) (hk : n.kind ≠ 0) : Fr2 N (outAt N i) [i.toNat] [i.toNat] 0 := by
 refine ⟨by rw [outAt_length]; exact Nat.le_refl _, by rw [outAt_length]; exact Nat.le_max_left _ _, by rw [used_out]; exact Nat.le_refl _, fun j x hj hx _ => by rw [outAt_get N (by simpa using hj)]; exact hx, fun j x hx hk => ?_, fun j hj => .inl hj, fun j x hx hk => ?_, by simp, hc.out i, fun j hj => ?_⟩
 · have := outAt_kd N i j
   rw [kd_some hx] at this
   obtain ⟨y, hy, hyk⟩ := kd_at this
   exact ⟨y, hy, by rw [hyk]; exact hk⟩
 · by_cases hji : j = i.toNat
   · exact .inl (by simp [hji])
   · rw [outAt_get N hji] at hx
     exact .inr ⟨by simpa using hji, x, hx, hk⟩
 · by_cases hji : j = i.toNat
   · subst hji
     have := outAt_kd N i i.toNat
     rw [kd_some hj, kd_some hi] at this
     exact absurd (Option.some.inj this).symm hk
   · rw [outAt_get N hji] at hj; exact hj
theorem Fr2.up {N N2 : NL} {i : Nat} {I1 I2 I3 K : List Nat} {c : Nat} {i' : Int} (hi : i'.toNat = i) (f : Fr2 (outAt N i') N2 I2 K c) (hn : (i :: (I1 ++ (I2 ++ I3))).Nodup) (hu : ∀ j ∈ i :: (I1 ++ (I2 ++ I3)), ∃ n : DNode, N[j]? = some (.inr n) ∧ n.kind ≠ 0) :
 Fr2 N N2 (i :: (I1 ++ (I2 ++ I3))) (i :: (I1 ++ (K ++ I3))) c := by
 have hk : ∀ (j : Nat) (x : Int ⊕ DNode), N[j]? = some x → kindN x ≠ 0 → ∃ y, (outAt N i')[j]? = some y ∧ kindN y ≠ 0 := fun j x hx hxk => by
  have := outAt_kd N i' j
  rw [kd_some hx] at this
  obtain ⟨y, hy, hyk⟩ := kd_at this
  exact ⟨y, hy, by rw [hyk]; exact hxk⟩
 have hk' : ∀ (j : Nat) (x : Int ⊕ DNode), (outAt N i')[j]? = some x → kindN x ≠ 0 → ∃ y, N[j]? = some y ∧ kindN y ≠ 0 := fun j x hx hxk => by
  have := outAt_kd N i' j
  rw [kd_some hx] at this
  obtain ⟨y, hy, hyk⟩ := kd_at this.symm
  exact ⟨y, hy, by rw [hyk]; exact hxk⟩
 have hK : ∀ j ∈ K, j ∈ I2 ∨ ∀ x : Int ⊕ DNode, N[j]? = some x → kindN x = 0 := fun j hj => (f.new j hj).imp id fun h x hx => by
  by_cases h0 : kindN x = 0
  · exact h0
  · obtain ⟨y, hy, hyk⟩ := hk j x hx h0
    exact absurd (h y hy) hyk
 obtain ⟨n1, n2⟩ := List.nodup_cons.1 hn
 obtain ⟨n3, n4, n5⟩ := List.nodup_append.1 n2
 obtain ⟨n6, n7, n8⟩ := List.nodup_append.1 n4
 have hKu : ∀ j ∈ K, j ∉ I2 → ∀ n : DNode, N[j]? = some (.inr n) → n.kind = 0 := fun j hj hj2 n hx => by
  rcases hK j hj with h | h
  · exact absurd h hj2
  · exact h _ hx
 have hne : ∀ j ∈ K, j ∈ i :: (I1 ++ (I2 ++ I3)) → j ∈ I2 := fun j hj hm => by
  by_cases h2 : j ∈ I2
  · exact h2
  · obtain ⟨n, hx, hnk⟩ := hu j hm
    exact absurd (hKu j hj h2 n hx) hnk
 refine ⟨by have := f.len; rwa [outAt_length] at this, by have := f.cap; rwa [outAt_length] at this, by have := f.use; rwa [used_out] at this, fun j x hj hx hxk => ?_, fun j x hx hxk => ?_, fun j hj => ?_, fun j x hx hxk => ?_, ?_, f.chk, fun j hj => ?_⟩
 · simp only [List.mem_cons, List.mem_append, not_or] at hj
   exact f.out j x hj.2.2.1 (by rw [outAt_get N (by omega)]; exact hx) hxk
 · obtain ⟨y, hy, hyk⟩ := hk j x hx hxk
   exact f.kept j y hy hyk
 · simp only [List.mem_cons, List.mem_append] at hj ⊢
   rcases hj with h | h | h | h
   · exact .inl (.inl h)
   · exact .inl (.inr (.inl h))
   · exact (hK j h).imp (fun h => .inr (.inr (.inl h))) id
   · exact .inl (.inr (.inr (.inr h)))
 · simp only [List.mem_cons, List.mem_append, not_or]
   rcases f.all j x hx hxk with h | ⟨h, y, hy, hyk⟩
   · exact .inl (.inr (.inr (.inl h)))
   · by_cases h0 : j = i
     · exact .inl (.inl h0)
     by_cases h1 : j ∈ I1
     · exact .inl (.inr (.inl h1))
     by_cases h3 : j ∈ I3
     · exact .inl (.inr (.inr (.inr h3)))
     · exact .inr ⟨⟨h0, h1, h, h3⟩, hk' j y hy hyk⟩
 · refine List.nodup_cons.2 ⟨fun hm => ?_, List.nodup_append.2 ⟨n3, List.nodup_append.2 ⟨f.nodup, n7, fun a ha b hb e => ?_⟩, fun a ha b hb e => ?_⟩⟩
   · simp only [List.mem_append, not_or] at hm n1
     rcases hm with h | h | h
     · exact n1.1 h
     · exact n1.2.1 (hne i h List.mem_cons_self)
     · exact n1.2.2 h
   · subst e
     exact n8 a (hne a ha (by simp [hb])) a hb rfl
   · subst e
     rcases List.mem_append.1 hb with h | h
     · exact n5 a ha a (List.mem_append_left _ (hne a h (by simp [ha]))) rfl
     · exact n5 a ha a (List.mem_append_right _ h) rfl
 · have h0 := f.zero j hj
   by_cases hji : j = i'.toNat
   · subst hji
     obtain ⟨n, hx, hnk⟩ := hu i List.mem_cons_self
     rw [← hi] at hx
     have := outAt_kd N i' i'.toNat
     rw [kd_some h0, kd_some hx] at this
     exact absurd (Option.some.inj this).symm hnk
   · rw [outAt_get N hji] at h0; exact h0
theorem Fr2.put {N N2 : NL} {I K : List Nat} {c : Nat} (f : Fr2 N N2 I K c) {i : Int} (hI : i.toNat ∈ I) (hK : i.toNat ∈ K) {x : Int ⊕ DNode} (hx : N2[i.toNat]? = some x) (hxk : kindN x ≠ 0) {n : DNode} (hn : n.kind ≠ 0) (hc : chkN n = 0) : Fr2 N (putAt N2 i n) I K c := by
 have hlt := (List.getElem?_eq_some_iff.1 hx).1
 have hu : used (putAt N2 i n) = used N2 := used_same hx hxk hn
 refine ⟨by rw [putAt_length]; exact f.len, by rw [putAt_length, hu]; exact f.cap, by rw [hu]; exact f.use, fun j y hj hy hyk => ?_, fun j y hy hyk => ?_, f.new, fun j y hy hyk => ?_, f.nodup, f.chk.put hc, fun j hj => ?_⟩
 · rw [putAt_get N2 (show j ≠ i.toNat from fun e => hj (by rw [e]; exact hI))]; exact f.out j y hj hy hyk
 · by_cases hji : j = i.toNat
   · subst hji; exact ⟨_, putAt_self N2 hlt, hn⟩
   · rw [putAt_get N2 hji]; exact f.kept j y hy hyk
 · by_cases hji : j = i.toNat
   · subst hji; exact .inl hK
   · rw [putAt_get N2 hji] at hy; exact f.all j y hy hyk
 · by_cases hji : j = i.toNat
   · subst hji; rw [putAt_self N2 hlt] at hj; cases hj
   · rw [putAt_get N2 hji] at hj; exact f.zero j hj
structure TakeP (N : NL) (n : DNode) (N' : NL) (j : Nat) : Prop where
 at_ : N'[j]? = some (.inr n)
 same : ∀ q, q ≠ j → N'[q]? = N[q]?
 free : ∀ x : Int ⊕ DNode, N[j]? = some x → kindN x = 0
 len : N'.length = N.length ∨ N'.length = N.length + 1 ∧ j = N.length ∧ ∀ (q : Nat) (x : Int ⊕ DNode), N[q]? = some x → kindN x ≠ 0
 use : kindN (.inr n) ≠ 0 → used N' = used N + 1
theorem Fr2.take {N N2 N' : NL} {I K : List Nat} {c : Nat} (f : Fr2 N N2 I K c) {n : DNode} {j : Nat} (t : TakeP N2 n N' j) (hn : n.kind ≠ 0) (hc : chkN n = 0) (hK : ∀ q ∈ K, ∃ x, N2[q]? = some x ∧ kindN x ≠ 0) : Fr2 N N' I (j :: K) (c + 1) := by
 have hu := t.use hn
 have hjN : ∀ x : Int ⊕ DNode, N[j]? = some x → kindN x = 0 := fun x hx => by
  by_cases h0 : kindN x = 0
  · exact h0
  · obtain ⟨y, hy, hyk⟩ := f.kept j x hx h0
    exact absurd (t.free y hy) hyk
 have hlen : N2.length ≤ N'.length := by rcases t.len with h | ⟨h, _⟩ <;> omega
 refine ⟨Nat.le_trans f.len hlen, ?_, by rw [hu]; have := f.use; omega, fun q x hq hx hxk => ?_, fun q x hx hxk => ?_, fun q hq => ?_, fun q x hx hxk => ?_, List.nodup_cons.2 ⟨fun hj => ?_, f.nodup⟩, fun m hm => ?_, fun q hq => ?_⟩
 · rcases t.len with h | ⟨h, _, ha⟩
   · rw [h, hu]; have := f.cap; omega
   · have := used_all ha
     rw [hu, h, this]; omega
 · have h1 := f.out q x hq hx hxk
   by_cases hqj : q = j
   · subst hqj; exact absurd (hjN x hx) hxk
   · rw [t.same q hqj]; exact h1
 · obtain ⟨y, hy, hyk⟩ := f.kept q x hx hxk
   by_cases hqj : q = j
   · subst hqj; exact ⟨_, t.at_, hn⟩
   · exact ⟨y, by rw [t.same q hqj]; exact hy, hyk⟩
 · rcases List.mem_cons.1 hq with rfl | hq
   · exact .inr hjN
   · exact f.new q hq
 · by_cases hqj : q = j
   · subst hqj; exact .inl List.mem_cons_self
   · rw [t.same q hqj] at hx
     exact (f.all q x hx hxk).imp (List.mem_cons_of_mem _) id
 · obtain ⟨x, hx, hxk⟩ := hK j hj
   exact hxk (t.free x hx)
 · obtain ⟨x, hx, rfl⟩ := List.mem_map.1 hm
   obtain ⟨q, hq⟩ := List.mem_iff_getElem?.1 hx
   by_cases hqj : q = j
   · subst hqj
     rw [t.at_] at hq
     obtain rfl := Option.some.inj hq
     exact hc
   · rw [t.same q hqj] at hq
     exact f.chk _ (List.mem_map.2 ⟨x, List.mem_of_getElem? hq, rfl⟩)
 · by_cases hqj : q = j
   · subst hqj; rw [t.at_] at hq; cases hq
   · rw [t.same q hqj] at hq; exact f.zero q hq
end Go.Proofs.Ytcmkdoahkncakaa
namespace Go.Proofs.Ytcmkdoahkncakaa
set_option linter.unusedVariables false
set_option linter.unusedSimpArgs false
def takeX (F : Nat) (N : NL) (n : DNode) : Option ((List (Int ⊕ DNode)) × Int) :=
 (iter (σ := Int) (ρ := (Unit) ⊕ ((List (Int ⊕ DNode)) × Int)) (fun x16 =>
  bif decide (x16 < (N.length : Int)) then
   (kindAt N x16).bind fun kd4 =>
   bif (kd4 == 0) then
    (hasAt N x16).bind fun u15 =>
    some (.inr (.inr ((putAt N x16 n), x16)))
   else
    some (.inl (IntKind.i64.wrap (x16 + 1)))
   else
    some (.inr (.inl ()))) F 0).bind fun z => match z with
  | .inl _ =>
   (roomN 104 (N.length + 1)).bind fun u16 =>
   some ((N ++ [(Sum.inr n : Int ⊕ DNode)]), IntKind.i64.wrap (((N ++ [(Sum.inr n : Int ⊕ DNode)]).length : Int) - 1))
  | .inr q => some q
def posX (F : Nat) (l : List DElem) (e : DElem) : Option Int :=
 iter (σ := Int) (ρ := Int) (fun x15 =>
  (
   bif decide (x15 < (l.length : Int)) then
    (idx l x15).bind fun e28 =>
    (elem_Spot e28).bind fun r68 =>
    (elem_Spot e).bind fun r69 =>
    (key_CmpSpot r68 r69).bind fun r70 =>
    some (decide (r70 < 0))
    else
     some false : Option (Bool)).bind fun z131 =>
   bif z131 then
    some (.inl (IntKind.i64.wrap (x15 + 1)))
   else
    some (.inr x15)) F 0
abbrev InsT := (List (Int ⊕ DNode)) × Int × Int × Int × Int × Int × Bool
def insM (F : Nat) (e : DElem) (rf4 : NL × Int → Option InsT) (x13 : NL) (x14 : Int) (n31 : DNode) : Option ((List DElem) × (List Int) × (List DSpot) × (List Int) × (List (Int ⊕ DNode))) :=
 bif (n31.kind == 1) then
  (posX F n31.elems e).bind fun z130 =>
  (inss 56 n31.elems z130 e).bind fun _ =>
  some ((insAt n31.elems z130.toNat e), n31.kids, n31.seps, n31.tids, (outAt x13 x14))
  else
   (elem_Spot e).bind fun r71 =>
   (node_Way F n31 r71).bind fun r72 =>
   (idx n31.kids r72).bind fun e29 =>
   (rf4 ((outAt x13 x14), e29)).bind fun z => match z with
    | (z132, z133, z134, z135, z136, z137, z138) =>
     (idx n31.kids r72).bind fun e30 =>
     (nodeAt z132 e30).bind fun n32 =>
     (node_Greatest F n32).bind fun r73 =>
     (idx n31.tids r72).bind fun e31 =>
     bif z138 then
      (inss 8 n31.kids (IntKind.i64.wrap (r72 + 1)) z137).bind fun _ =>
      (inss 32 n31.seps r72 (DSpot.mk (DKey.mk z133 z134 z135) z136)).bind fun _ =>
      (nodeAt z132 z137).bind fun n33 =>
      (node_Greatest F n33).bind fun r74 =>
      (inss 8 (n31.tids.set r72.toNat r73) (IntKind.i64.wrap (r72 + 1)) r74).bind fun _ =>
      some (n31.elems, (insAt n31.kids (IntKind.i64.wrap (r72 + 1)).toNat z137), (insAt n31.seps r72.toNat (DSpot.mk (DKey.mk z133 z134 z135) z136)), (insAt (n31.tids.set r72.toNat r73) (IntKind.i64.wrap (r72 + 1)).toNat r74), z132)
     else
      some (n31.elems, n31.kids, n31.seps, (n31.tids.set r72.toNat r73), z132)
def halfX (k : Int) (z125 : List DElem) (z126 : List Int) (z127 : List DSpot) (z128 : List Int) : Option ((List Int) × (List DSpot) × (List Int) × (List DElem) × (List DElem) × (List Int) × (List DSpot) × (List Int) × Int × Int × Int × Int × Int) :=
 bif (k == 1) then
  (lslice z125 4 (z125.length : Int)).bind fun s25 =>
  (grow 56 ([] : List DElem) s25).bind fun _ =>
  (lslice z125 0 4).bind fun s26 =>
  (idx s25 0).bind fun e33 =>
  (elem_Spot e33).bind fun r76 =>
  some ([], [], [], s25, s26, z126, z127, z128, r76.key.pfs, r76.key.obj, r76.key.off, r76.made, 1)
  else
   (lslice z126 4 (z126.length : Int)).bind fun s27 =>
   (lslice z127 4 (z127.length : Int)).bind fun s28 =>
   (lslice z128 4 (z128.length : Int)).bind fun s29 =>
   (grow 8 ([] : List Int) s27).bind fun y37 =>
   (grow 32 ([] : List DSpot) s28).bind fun y38 =>
   (grow 8 ([] : List Int) s29).bind fun y39 =>
   (idx z127 3).bind fun e34 =>
   (lslice z126 0 4).bind fun s30 =>
   (lslice z127 0 3).bind fun s31 =>
   (lslice z128 0 4).bind fun s32 =>
   some (s29, s28, s27, [], z125, s30, s31, s32, e34.key.pfs, e34.key.obj, e34.key.off, e34.made, 2)
def insB (F : Nat) (e : DElem) (rf4 : NL × Int → Option InsT) (x : NL × Int) : Option InsT :=
 match x with
  | (x13, x14) =>
   (nodeAt x13 x14).bind fun n31 =>
    (insM F e rf4 x13 x14 n31).bind fun z => match z with
     | (z125, z126, z127, z128, z129) =>
      bif decide ((IntKind.i64.wrap ((z125.length : Int) + (z126.length : Int))) ≤ 8) then
       (hasAt z129 x14).bind fun u13 =>
       some ((putAt z129 x14 (DNode.mk n31.kind z125 z126 z127 z128)), 0, 0, 0, 0, 0, false)
      else
       (halfX n31.kind z125 z126 z127 z128).bind fun z => match z with
        | (z139, z140, z141, z142, z143, z144, z145, z146, z147, z148, z149, z150, z151) =>
         (hasAt z129 x14).bind fun u14 =>
         (takeX F (putAt z129 x14 (DNode.mk n31.kind z143 z144 z145 z146)) (DNode.mk z151 z142 z141 z140 z139)).bind fun z => match z with
          | (z152, z153) =>
           some (z152, z147, z148, z149, z150, z153, true)
def addX (F : Nat) (e : DElem) (N : NL) (root : Int) : Option (Int × NL) :=
 (fixD (σ := (List (Int ⊕ DNode)) × Int) (ρ := InsT) (insB F e) F (N, root)).bind fun z => match z with
  | (z39, z40, z41, z42, z43, z44, z45) =>
   bif (!z45) then
    some (root, z39)
   else
    (nodeAt z39 root).bind fun n41 =>
    (nodeAt z39 z44).bind fun n42 =>
    (node_Greatest F n41).bind fun r84 =>
    (node_Greatest F n42).bind fun r85 =>
    (takeX F z39 (DNode.mk 2 [] [root, z44] [(DSpot.mk (DKey.mk z40 z41 z42) z43)] [r84, r85])).bind fun z => match z with
     | (z154, z155) =>
      some (z155, z154)
variable {F : Nat} [Big F]
theorem kindAt_nat {N : NL} {k : Nat} {x : Int ⊕ DNode} (h : N[k]? = some x) : kindAt N (k : Int) = some (kindN x) := by
 unfold kindAt; rw [if_neg (by omega), Int.toNat_natCast, h]; rfl
theorem takeX_eq {N : NL} (n : DNode) (hl : N.length ≤ 1000) : ∃ N' j, takeX F N n = some (N', ((j : Nat) : Int)) ∧ TakeP N n N' j := by
 unfold takeX
 rw [loop_find (ρ := Unit ⊕ (List (Int ⊕ DNode) × Int)) N (fun k x => if kindN x = 0 then some (.inr (putAt N (k : Int) n, (k : Int))) else none) (.inl ()) (by omega) rfl ?hs ?he]
 case hs =>
  intro k x hk _
  have hkl := (List.getElem?_eq_some_iff.1 hk).1
  rw [decide_eq_true (by omega), cond_true, kindAt_nat hk, Option.bind_some]
  by_cases h : kindN x = 0
  · rw [show (kindN x == 0) = true by simpa using h, cond_true, has_at ⟨by omega, by omega⟩, Option.bind_some, if_pos h]
  · rw [show (kindN x == 0) = false by simpa using h, cond_false, if_neg h, w64 (by omega) (by omega)]
 case he => rw [decide_eq_false (by omega), cond_false]
 rw [Option.bind_some]
 cases hf : N.zipIdx.findSome? (fun p => if kindN p.1 = 0 then some (Sum.inr (putAt N (p.2 : Int) n, (p.2 : Int)) : Unit ⊕ (List (Int ⊕ DNode) × Int)) else none) with
 | some r =>
  obtain ⟨k, x, hk, hr⟩ := find_some (w := fun k x => if kindN x = 0 then some (Sum.inr (putAt N (k : Int) n, (k : Int)) : Unit ⊕ (List (Int ⊕ DNode) × Int)) else none) hf
  have hkl := (List.getElem?_eq_some_iff.1 hk).1
  split at hr
  · rename_i h0
    obtain rfl := Option.some.inj hr
    refine ⟨putAt N (k : Int) n, k, rfl, ⟨?_, fun q hq => ?_, fun y hy => ?_, .inl (putAt_length _ _ _), fun hn => ?_⟩⟩
    · have := putAt_self N (i := (k : Int)) (n := n) (by rw [Int.toNat_natCast]; exact hkl)
      rwa [Int.toNat_natCast] at this
    · exact putAt_get N (by rw [Int.toNat_natCast]; exact hq)
    · rw [hk] at hy
      obtain rfl := Option.some.inj hy
      exact h0
    · unfold putAt
      rw [Int.toNat_natCast]
      have := used_set (.inr n) hk
      rw [if_neg (fun h => usedB_iff.1 h h0), if_pos (usedB_iff.2 hn)] at this
      omega
  · cases hr
 | none =>
  have hn := (find_none (w := fun k x => if kindN x = 0 then some (Sum.inr (putAt N (k : Int) n, (k : Int)) : Unit ⊕ (List (Int ⊕ DNode) × Int)) else none)).1 hf
  have hall : ∀ (q : Nat) (x : Int ⊕ DNode), N[q]? = some x → kindN x ≠ 0 := fun q x hx h0 => by
   have := hn q x hx
   rw [if_pos h0] at this; cases this
  refine ⟨N ++ [.inr n], N.length, ?_, ⟨by rw [List.getElem?_append_right (Nat.le_refl _)]; simp, fun q hq => ?_, fun x hx => ?_, .inr ⟨by simp, rfl, hall⟩, fun hk => ?_⟩⟩
  · have hr : roomN 104 (N.length + 1) = some () := by unfold roomN; rw [if_pos ⟨by omega, by unfold maxLen; omega⟩]
    dsimp only [Option.getD_none]
    rw [hr, Option.bind_some, List.length_append, List.length_singleton, w64 (by omega) (by omega)]
    congr 2; omega
  · rcases Nat.lt_or_ge q N.length with h | h
    · rw [List.getElem?_append_left h]
    · rw [List.getElem?_eq_none (by rw [List.length_append, List.length_singleton]; omega), List.getElem?_eq_none h]
  · have := (List.getElem?_eq_some_iff.1 hx).1; omega
  · unfold used
    rw [List.countP_append, List.countP_singleton, if_pos (usedB_iff.2 hk)]
theorem tw_mem {α : Type} {p : α → Bool} {x : α} : ∀ {l : List α}, x ∈ l.takeWhile p → p x = true
 | [], h => by simp at h
 | a :: l, h => by
  cases ha : p a with
  | true =>
   rw [List.takeWhile_cons_of_pos ha] at h
   rcases List.mem_cons.1 h with rfl | h
   · exact ha
   · exact tw_mem h
  | false => rw [List.takeWhile_cons_of_neg (by simp [ha])] at h; cases h
theorem posX_eq (l : List DElem) (e : DElem) (hl : l.length ≤ 1000) : ∃ w : Nat, posX F l e = some (w : Int) ∧ w ≤ l.length ∧ (∀ x ∈ l.take w, cmpS (spotE x) (spotE e) < 0) ∧ ∀ x, l[w]? = some x → ¬ cmpS (spotE x) (spotE e) < 0 := by
 obtain ⟨w1, w2⟩ : (∀ x ∈ l.takeWhile (fun x => decide (cmpS (spotE x) (spotE e) < 0)), cmpS (spotE x) (spotE e) < 0) ∧ ∀ x, l[(l.takeWhile (fun x => decide (cmpS (spotE x) (spotE e) < 0))).length]? = some x → ¬ cmpS (spotE x) (spotE e) < 0 := by
  refine ⟨fun x hx => by simpa using tw_mem hx, ?_⟩
  clear hl
  induction l with
  | nil => intro x hx; simp at hx
  | cons a l ih =>
   intro x hx
   by_cases h : cmpS (spotE a) (spotE e) < 0
   · rw [List.takeWhile_cons_of_pos (by simpa using h), List.length_cons, List.getElem?_cons_succ] at hx
     exact ih x hx
   · rw [List.takeWhile_cons_of_neg (by simpa using h)] at hx
     obtain rfl : a = x := by simpa using hx
     exact h
 have hpre : l.takeWhile (fun x => decide (cmpS (spotE x) (spotE e) < 0)) <+: l := List.takeWhile_prefix _
 have hle := hpre.length_le
 have ht : l.take (l.takeWhile (fun x => decide (cmpS (spotE x) (spotE e) < 0))).length = l.takeWhile (fun x => decide (cmpS (spotE x) (spotE e) < 0)) := (List.prefix_iff_eq_take.1 hpre).symm
 generalize hw : (l.takeWhile (fun x => decide (cmpS (spotE x) (spotE e) < 0))).length = w at *
 refine ⟨w, ?_, hle, by rw [ht]; exact w1, w2⟩
 unfold posX
 refine loop_run (fun k => (k : Int)) w rfl (by omega) (fun k hk => ?_) ?_
 · have hkl : k < l.length := by omega
   have hg : l[k]? = some l[k] := List.getElem?_eq_getElem hkl
   have hmem : l[k] ∈ l.take w := List.mem_of_getElem? (by rw [List.getElem?_take_of_lt hk]; exact hg)
   rw [decide_eq_true (by omega), cond_true, idx_nat', hg, Option.bind_some, elem_Spot_eq, Option.bind_some, elem_Spot_eq, Option.bind_some, key_CmpSpot_eq, Option.bind_some, decide_eq_true (w1 _ (by rw [← ht]; exact hmem)), Option.bind_some, cond_true, w64 (by omega) (by omega)]
   rfl
 · by_cases h : w < l.length
   · have hg : l[w]? = some l[w] := List.getElem?_eq_getElem h
     rw [decide_eq_true (by omega), cond_true, idx_nat', hg, Option.bind_some, elem_Spot_eq, Option.bind_some, elem_Spot_eq, Option.bind_some, key_CmpSpot_eq, Option.bind_some, decide_eq_false (w2 _ hg), Option.bind_some, cond_false]
   · rw [decide_eq_false (by omega), cond_false, Option.bind_some, cond_false]
theorem insAt_sorted {l : List DElem} {e : DElem} {w : Nat} (ho : l.Pairwise SpO) (hw : w ≤ l.length) (h1 : ∀ x ∈ l.take w, cmpS (spotE x) (spotE e) < 0) (h2 : ∀ x, l[w]? = some x → ¬ cmpS (spotE x) (spotE e) < 0) (hne : ∀ x ∈ l, spotE x ≠ spotE e) :
 (insAt l w e).Pairwise SpO ∧ ∀ x, x ∈ insAt l w e ↔ x = e ∨ x ∈ l := by
 have ho' := ho
 rw [← List.take_append_drop w l] at ho'
 obtain ⟨o1, o2, o3⟩ := List.pairwise_append.1 ho'
 have hd : ∀ x ∈ l.drop w, SpO e x := fun x hx => by
  have h0 : ∀ y, l[w]? = some y → SpO e y := fun y hy => by
   have h3 := h2 y hy
   have h4 := hne y (List.mem_of_getElem? hy)
   have h5 : cmpS (spotE y) (spotE e) ≠ 0 := fun h => h4 ((cmp_cmpS.zero _ _).1 h)
   have h6 := cmp_cmpS.neg (spotE y) (spotE e)
   show cmpS (spotE e) (spotE y) < 0
   omega
  obtain ⟨q, hq⟩ := List.mem_iff_getElem?.1 hx
  rw [List.getElem?_drop] at hq
  cases q with
  | zero => exact h0 x (by simpa using hq)
  | succ q =>
   have hlt := (List.getElem?_eq_some_iff.1 hq).1
   have hg : l[w]? = some l[w] := List.getElem?_eq_getElem (by omega)
   exact (h0 _ hg).trans (pairwise_at ho (by omega) hg hq)
 unfold insAt
 refine ⟨List.pairwise_append.2 ⟨o1, List.pairwise_cons.2 ⟨hd, o2⟩, fun a ha b hb => ?_⟩, fun x => ?_⟩
 · rcases List.mem_cons.1 hb with rfl | hb
   · exact h1 a ha
   · exact o3 a ha b hb
 · conv => rhs; rw [← List.take_append_drop w l]
   rw [List.mem_append, List.mem_cons, List.mem_append]
   constructor
   · rintro (h | h | h)
     · exact .inr (.inl h)
     · exact .inl h
     · exact .inr (.inr h)
   · rintro (h | h | h)
     · exact .inr (.inl h)
     · exact .inl h
     · exact .inr (.inr h)
structure InsPost (e : DElem) (N N' : NL) (h : Nat) (i : Int) (s : Span) (m : Nat) (R : List Int) (X : List DSpot) : Prop where
 fr : Fr2 N N' (ids (fN N) h i) (R.flatMap (ids (fN N') h)) (h + 1)
 ch : Ch (fun k t s' => SubT (fN N') h k m s' ∧ greatR (nd (fN N') k) = t) X s R (R.map fun k => greatR (nd (fN N') k))
 elems : ∀ x, x ∈ R.flatMap (elemsAt (fN N') h) ↔ x = e ∨ x ∈ elemsAt (fN N) h i
theorem kids_agree {N N' : NL} {h : Nat} {X : List DSpot} {s : Span} {Ks Ts : List Int} (hl : N.length ≤ N'.length) (c : Ch (KidP (fN N) h) X s Ks Ts) (hj : ∀ j ∈ Ks.flatMap (ids (fN N) h), N'[j]? = N[j]?) :
 Ch (KidP (fN N') h) X s Ks Ts ∧ Ks.flatMap (ids (fN N') h) = Ks.flatMap (ids (fN N) h) ∧ Ks.flatMap (elemsAt (fN N') h) = Ks.flatMap (elemsAt (fN N) h) := by
 have key : ∀ k ∈ Ks, ∀ {m : Nat} {s : Span}, SubT (fN N) h k m s → SubT (fN N') h k m s ∧ ids (fN N') h k = ids (fN N) h k ∧ elemsAt (fN N') h k = elemsAt (fN N) h k ∧ nd (fN N') k = nd (fN N) k := fun k hk {m s} x =>
  x.agree hl fun j hjk => hj j (List.mem_flatMap.2 ⟨k, hk, hjk⟩)
 refine ⟨c.mono fun k t s' hk x => ⟨(key k hk x.1).1, by rw [(key k hk x.1).2.2.2]; exact x.2⟩, flat_same fun k hk => ?_, flatMap_same fun k hk => ?_⟩
 · obtain ⟨t, s', x, _⟩ := c.mem k hk; exact (key k hk x.1).2.1
 · obtain ⟨t, s', x, _⟩ := c.mem k hk; exact (key k hk x.1).2.2.1
theorem Ch.tmem {P : Int → Int → Span → Prop} : ∀ {xs : List DSpot} {s : Span} {ks ts : List Int}, Ch P xs s ks ts → ∀ t ∈ ts, ∃ k s', k ∈ ks ∧ P k t s'
 | [], s, ks, ts, ⟨k, t, h1, h2, c⟩, q, hq => by
  subst h1 h2
  rw [List.mem_singleton.1 hq]; exact ⟨k, s, List.mem_cons_self, c⟩
 | x :: xs, s, ks, ts, ⟨k, ks', t, ts', h1, h2, h3, h4, c⟩, q, hq => by
  subst h1 h2
  rcases List.mem_cons.1 hq with rfl | hq
  · exact ⟨k, _, List.mem_cons_self, h4⟩
  · obtain ⟨k', s', i1, i2⟩ := c.tmem q hq
    exact ⟨k', s', List.mem_cons_of_mem _ i1, i2⟩
theorem inner_mk {N : NL} (hc : ChkL N) (hl : N.length ≤ 400) {h : Nat} {X : List DSpot} {s : Span} {Ks Ts : List Int} (c : Ch (KidP (fN N) h) X s Ks Ts) (h2 : 2 ≤ Ks.length) (h8 : Ks.length ≤ 8) (ho : X.Pairwise SpotO) (hx : ∀ x ∈ X, chkE (zE x) = 0) :
 Inner ⟨2, [], Ks, X, Ts⟩ := by
 have hlen := c.lens
 refine ⟨rfl, h2, h8, hlen.1, hlen.2, fun k hk => ?_, fun t ht => ?_, hx, ho⟩
 · obtain ⟨t, s', x, _⟩ := c.mem k hk
   have := x.1.range
   rw [fN_length] at this
   omega
 · obtain ⟨k, s', _, x⟩ := c.tmem t ht
   rw [← x.2]
   exact great_ok (nd_chk hc x.1.range)
theorem SubT.some_elem {ns : List DNode} (hns : ∀ n ∈ ns, chkN n = 0) {h : Nat} {i : Int} {s : Span} (c : SubT ns h i 4 s) : ∃ e, e ∈ elemsAt ns h i := by
 have h0 := (okN_sub hns h i 1 s (by decide)).2 (by unfold mOf; rw [if_pos (by decide)]; exact c)
 have := elems_many hns h i 1 s h0 (by decide)
 have h1 : 0 < 4 ^ (h + 1) := Nat.pow_pos (by decide)
 exact List.exists_mem_of_length_pos (by omega)
theorem halfX_leaf {l : List DElem} (hl : l.length = 9) (ks : List Int) (xs : List DSpot) (ts : List Int) : ∃ x, l[4]? = some x ∧ halfX 1 l ks xs ts = some ([], [], [], l.drop 4, l.take 4, ks, xs, ts, (spotE x).key.pfs, (spotE x).key.obj, (spotE x).key.off, (spotE x).made, 1) := by
 have hg : l[4]? = some l[4] := List.getElem?_eq_getElem (by omega)
 refine ⟨_, hg, ?_⟩
 unfold halfX
 have h1 : lslice l 4 (l.length : Int) = some (l.drop 4) := lslice_from (k := 4) (by omega)
 have h2 : lslice l 0 4 = some (l.take 4) := lslice_to (k := 4) (by omega)
 have h3 : idx (l.drop 4) 0 = some l[4] := by rw [show (0 : Int) = ((0 : Nat) : Int) from rfl, idx_nat', List.getElem?_drop]; exact hg
 rw [show ((1 : Int) == 1) = true from rfl, cond_true, h1, Option.bind_some, grow_ok (by simp [hl]) (by simp [hl]), Option.bind_some, h2, Option.bind_some, h3, Option.bind_some, elem_Spot_eq, Option.bind_some]
theorem halfX_inner {ks : List Int} {xs : List DSpot} {ts : List Int} (hk : ks.length = 9) (hx : xs.length = 8) (ht : ts.length = 9) (l : List DElem) : ∃ x, xs[3]? = some x ∧ halfX 2 l ks xs ts = some (ts.drop 4, xs.drop 4, ks.drop 4, [], l, ks.take 4, xs.take 3, ts.take 4, x.key.pfs, x.key.obj, x.key.off, x.made, 2) := by
 have hg : xs[3]? = some xs[3] := List.getElem?_eq_getElem (by omega)
 refine ⟨_, hg, ?_⟩
 unfold halfX
 have h1 : lslice ks 4 (ks.length : Int) = some (ks.drop 4) := lslice_from (k := 4) (by omega)
 have h2 : lslice xs 4 (xs.length : Int) = some (xs.drop 4) := lslice_from (k := 4) (by omega)
 have h3 : lslice ts 4 (ts.length : Int) = some (ts.drop 4) := lslice_from (k := 4) (by omega)
 have h4 : lslice ks 0 4 = some (ks.take 4) := lslice_to (k := 4) (by omega)
 have h5 : lslice xs 0 3 = some (xs.take 3) := lslice_to (k := 3) (by omega)
 have h6 : lslice ts 0 4 = some (ts.take 4) := lslice_to (k := 4) (by omega)
 have h7 : idx xs 3 = some xs[3] := by rw [show (3 : Int) = ((3 : Nat) : Int) from rfl, idx_nat']; exact hg
 rw [show ((2 : Int) == 1) = false from rfl, cond_false, h1, Option.bind_some, h2, Option.bind_some, h3, Option.bind_some, grow_ok (by simp [hk]) (by simp [hk]), Option.bind_some, grow_ok (by simp [hx]) (by simp [hx]), Option.bind_some, grow_ok (by simp [ht]) (by simp [ht]), Option.bind_some, h7, Option.bind_some, h4, Option.bind_some, h5, Option.bind_some, h6, Option.bind_some]
end Go.Proofs.Ytcmkdoahkncakaa
namespace Go.Proofs.Ytcmkdoahkncakaa
set_option linter.unusedVariables false
set_option linter.unusedSimpArgs false
variable {F : Nat} [Big F]
theorem Fr2.cong {N N' : NL} {I I' K K' : List Nat} {c : Nat} (f : Fr2 N N' I K c) (h1 : I = I') (h2 : K = K') : Fr2 N N' I' K' c := by subst h1 h2; exact f
theorem nd_of {N : NL} {i : Int} {n : DNode} (h : N[i.toNat]? = some (.inr n)) : nd (fN N) i = n := by unfold nd; rw [fN_get, h]; rfl
def InsOut (F : Nat) (e : DElem) (N : NL) (h mf : Nat) (i : Int) (s : Span) (m : Nat) : Prop :=
 ∃ (N' : NL) (sp : DSpot) (r : Int) (b : Bool), fixD (insB F e) mf (N, i) = some (N', sp.key.pfs, sp.key.obj, sp.key.off, sp.made, r, b) ∧
  ((b = false ∧ InsPost e N N' h i s m [i] []) ∨ (b = true ∧ chkE (zE sp) = 0 ∧ InsPost e N N' h i s 4 [i, r] [sp]))
def z0 : DSpot := ⟨⟨0, 0, 0⟩, 0⟩
omit [Big F] in
theorem insB_small {e : DElem} {rf : NL × Int → Option InsT} {N N2 : NL} {i : Int} {n : DNode} {l : List DElem} {ks : List Int} {xs : List DSpot} {ts : List Int} (hn : nodeAt N i = some n) (hm : insM F e rf N i n = some (l, ks, xs, ts, N2)) (h8 : l.length + ks.length ≤ 8) (hi : 0 ≤ i ∧ i < (N2.length : Int)) :
 insB F e rf (N, i) = some (putAt N2 i ⟨n.kind, l, ks, xs, ts⟩, 0, 0, 0, 0, 0, false) := by
 unfold insB
 dsimp only
 rw [hn, Option.bind_some, hm, Option.bind_some]
 dsimp only
 rw [w64 (by omega) (by omega), decide_eq_true (by omega), cond_true, has_at hi, Option.bind_some]
theorem insB_large {e : DElem} {rf : NL × Int → Option InsT} {N N2 : NL} {i : Int} {n : DNode} {l : List DElem} {ks : List Int} {xs : List DSpot} {ts : List Int} (hn : nodeAt N i = some n) (hm : insM F e rf N i n = some (l, ks, xs, ts, N2)) (h8 : l.length + ks.length = 9) (hi : 0 ≤ i ∧ i < (N2.length : Int)) (hl : N2.length ≤ 1000)
 {r1 : List Int} {r2 : List DSpot} {r3 : List Int} {r4 l1 : List DElem} {l2 : List Int} {l3 : List DSpot} {l4 : List Int} {sp : DSpot} {k : Int} (hh : halfX n.kind l ks xs ts = some (r1, r2, r3, r4, l1, l2, l3, l4, sp.key.pfs, sp.key.obj, sp.key.off, sp.made, k)) :
 ∃ N' j, insB F e rf (N, i) = some (N', sp.key.pfs, sp.key.obj, sp.key.off, sp.made, ((j : Nat) : Int), true) ∧ TakeP (putAt N2 i ⟨n.kind, l1, l2, l3, l4⟩) ⟨k, r4, r3, r2, r1⟩ N' j := by
 obtain ⟨N', j, h1, h2⟩ := takeX_eq (F := F) (N := putAt N2 i ⟨n.kind, l1, l2, l3, l4⟩) ⟨k, r4, r3, r2, r1⟩ (by rw [putAt_length]; exact hl)
 refine ⟨N', j, ?_, h2⟩
 unfold insB
 dsimp only
 rw [hn, Option.bind_some, hm, Option.bind_some]
 dsimp only
 rw [w64 (by omega) (by omega), decide_eq_false (by omega), cond_false, hh, Option.bind_some]
 dsimp only
 rw [has_at hi, Option.bind_some, h1, Option.bind_some]
theorem ins_leaf {e : DElem} (he : chkE e = 0) {mf : Nat} {N : NL} {i : Int} {m : Nat} {s : Span} (hm : 0 < mf) (hc : ChkL N) (hl : N.length ≤ 400) (c : SubT (fN N) 0 i m s) (hs : inS s (spotE e) = true) (hne : ∀ x ∈ elemsAt (fN N) 0 i, spotE x ≠ spotE e) : InsOut F e N 0 mf i s m := by
 obtain ⟨mf, rfl⟩ : ∃ q, mf = q + 1 := ⟨mf - 1, by omega⟩
 have L := c.leaf hc
 have hr := c.range
 rw [fN_length] at hr
 obtain ⟨hnode, hat⟩ := c.node
 have hk0 := c.kind
 obtain ⟨_, hk1, hmk, hin⟩ := c
 have hne' : ∀ x ∈ (nd (fN N) i).elems, spotE x ≠ spotE e := hne
 have hel : ∀ x, x ∈ elemsAt (fN N) 0 i ↔ x ∈ (nd (fN N) i).elems := fun x => Iff.rfl
 generalize hnn : nd (fN N) i = n at *
 obtain ⟨w, hw, hwl, hw1, hw2⟩ := posX_eq (F := F) n.elems e (by have := L.len; omega)
 obtain ⟨so, sm⟩ := insAt_sorted L.ord hwl hw1 hw2 hne'
 have hlen := insAt_length e hwl
 have h8 := L.len
 generalize hl' : insAt n.elems w e = l' at *
 have hok : ∀ x ∈ l', chkE x = 0 := fun x hx => by
  rcases (sm x).1 hx with rfl | hx
  · exact he
  · exact L.ok x hx
 have hin' : ∀ x ∈ l', inS s (spotE x) = true := fun x hx => by
  rcases (sm x).1 hx with rfl | hx
  · exact hs
  · exact hin x hx
 have hM : ∀ rf, insM F e rf N i n = some (l', [], [], [], outAt N i) := fun rf => by
  unfold insM
  rw [hk1, show ((1 : Int) == 1) = true from rfl, cond_true, hw, Option.bind_some]
  unfold inss
  rw [if_pos ⟨by omega, by omega, by omega, by unfold maxLen; omega⟩, Option.bind_some, Int.toNat_natCast, hl', L.kids, L.seps, L.tids]
 have fr0 := Fr2.start hc hat hk0
 have hat1 : ∃ x, (outAt N i)[i.toNat]? = some x ∧ kindN x ≠ 0 := by
  have := outAt_kd N i i.toNat
  rw [kd_some hat] at this
  obtain ⟨x, hx, hxk⟩ := kd_at this
  exact ⟨x, hx, by rw [hxk]; exact hk0⟩
 obtain ⟨x1, hx1, hxk1⟩ := hat1
 have hI : ids (fN N) 0 i = [i.toNat] := rfl
 by_cases hs8 : l'.length ≤ 8
 · have Lf : Leaf ⟨1, l', [], [], []⟩ := ⟨rfl, rfl, rfl, hs8, hok, so⟩
   have hck := leaf_chk (n := ⟨1, l', [], [], []⟩) rfl Lf
   have hnd : nd (fN (putAt (outAt N i) i ⟨1, l', [], [], []⟩)) i = ⟨1, l', [], [], []⟩ := nd_put (by rw [outAt_length]; exact hr)
   refine ⟨putAt (outAt N i) i ⟨1, l', [], [], []⟩, z0, 0, false, ?_, .inl ⟨rfl, ⟨?_, ?_, ?_⟩⟩⟩
   · show insB F e (fixD (insB F e) mf) (N, i) = _
     rw [insB_small hnode (hM _) (by simpa using hs8) (by rw [outAt_length]; exact hr), hk1]; rfl
   · exact ((fr0.put List.mem_cons_self List.mem_cons_self hx1 hxk1 (show (1 : Int) ≠ 0 by decide) hck).more (Nat.zero_le _)).cong rfl (by simp [ids])
   · refine ⟨i, _, rfl, rfl, ⟨?_, by rw [hnd], by rw [hnd]; show m ≤ l'.length; omega, by rw [hnd]; exact hin'⟩, rfl⟩
     rw [fN_length, putAt_length, outAt_length]; exact hr
   · intro x
     rw [hel, ← sm x, List.flatMap_singleton]
     show x ∈ (nd _ i).elems ↔ _
     rw [hnd]
 · have h9 : l'.length = 9 := by omega
   obtain ⟨x, hx, hh⟩ := halfX_leaf h9 [] [] []
   rw [← hk1] at hh
   obtain ⟨N', j, hB, tk⟩ := insB_large (sp := spotE x) hnode (hM (fixD (insB F e) mf)) (by simpa using h9) (by rw [outAt_length]; exact hr) (by rw [outAt_length]; omega) hh
   rw [hk1] at tk
   have e48 : l' = l'.take 4 ++ l'.drop 4 := (List.take_append_drop 4 l').symm
   have hso := so
   rw [e48] at hso
   obtain ⟨o1, o2, o3⟩ := List.pairwise_append.1 hso
   have hl1 : (l'.take 4).length = 4 := by rw [List.length_take]; omega
   have hl2 : (l'.drop 4).length = 5 := by rw [List.length_drop]; omega
   have hxd : ∃ r, l'.drop 4 = x :: r := by
    have h4 : 4 < l'.length := by omega
    rw [List.getElem?_eq_getElem h4] at hx
    obtain rfl := Option.some.inj hx
    exact ⟨_, List.drop_eq_getElem_cons h4⟩
   obtain ⟨rr, hrr⟩ := hxd
   have Lf1 : Leaf ⟨1, l'.take 4, [], [], []⟩ := ⟨rfl, rfl, rfl, by show (l'.take 4).length ≤ 8; omega, fun y hy => hok y (List.mem_of_mem_take hy), o1⟩
   have Lf2 : Leaf ⟨1, l'.drop 4, [], [], []⟩ := ⟨rfl, rfl, rfl, by show (l'.drop 4).length ≤ 8; omega, fun y hy => hok y (List.mem_of_mem_drop hy), o2⟩
   have hck1 := leaf_chk (n := ⟨1, l'.take 4, [], [], []⟩) rfl Lf1
   have hck2 := leaf_chk (n := ⟨1, l'.drop 4, [], [], []⟩) rfl Lf2
   have fr1 := fr0.put List.mem_cons_self List.mem_cons_self hx1 hxk1 (n := ⟨1, l'.take 4, [], [], []⟩) (show (1 : Int) ≠ 0 by decide) hck1
   have hat2 : (putAt (outAt N i) i ⟨1, l'.take 4, [], [], []⟩)[i.toNat]? = some (.inr ⟨1, l'.take 4, [], [], []⟩) := putAt_self _ (by rw [outAt_length]; omega)
   have fr2 := fr1.take tk (show (1 : Int) ≠ 0 by decide) hck2 fun q hq => by
    obtain rfl : q = i.toNat := by simpa using hq
    exact ⟨_, hat2, show (1 : Int) ≠ 0 by decide⟩
   have hij : i.toNat ≠ j := fun h => by
    subst h
    exact absurd (tk.free _ hat2) (show (1 : Int) ≠ 0 by decide)
   have hNi : N'[i.toNat]? = some (.inr ⟨1, l'.take 4, [], [], []⟩) := by rw [tk.same _ hij]; exact hat2
   have hnd1 : nd (fN N') i = ⟨1, l'.take 4, [], [], []⟩ := nd_of hNi
   have hnd2 : nd (fN N') (j : Int) = ⟨1, l'.drop 4, [], [], []⟩ := nd_at (by rw [fN_get, tk.at_]; rfl)
   have hjl : j < N'.length := (List.getElem?_eq_some_iff.1 tk.at_).1
   have hil : i.toNat < N'.length := (List.getElem?_eq_some_iff.1 hNi).1
   have hxs : inS s (spotE x) = true := hin' x (List.mem_of_mem_drop (by rw [hrr]; exact List.mem_cons_self))
   refine ⟨N', spotE x, (j : Int), true, hB, .inr ⟨rfl, spot_ok (hok x (List.mem_of_mem_drop (by rw [hrr]; exact List.mem_cons_self))), ⟨?_, ?_, ?_⟩⟩⟩
   · refine ((fr2.more (by omega)).perm (K' := [i.toNat, j]) (List.Perm.swap _ _ _)).cong rfl ?_
     simp [ids]
   · refine ⟨i, [(j : Int)], _, _, rfl, rfl, hxs, ⟨⟨?_, by rw [hnd1], by rw [hnd1]; show 4 ≤ (l'.take 4).length; omega, ?_⟩, rfl⟩, (j : Int), _, rfl, rfl, ⟨?_, by rw [hnd2], by rw [hnd2]; show 4 ≤ (l'.drop 4).length; omega, ?_⟩, rfl⟩
     · rw [fN_length]; omega
     · rw [hnd1]
       intro y hy
       exact inS_hiS.2 ⟨(inS_iff.1 (hin' y (List.mem_of_mem_take hy))).1, o3 y hy x (by rw [hrr]; exact List.mem_cons_self)⟩
     · rw [fN_length]; omega
     · rw [hnd2]
       intro y hy
       refine inS_loS.2 ⟨?_, (inS_iff.1 (hin' y (List.mem_of_mem_drop hy))).2⟩
       have hy' : y ∈ x :: rr := by rw [← hrr]; exact hy
       rw [hrr] at o2
       rcases List.mem_cons.1 hy' with rfl | hy'
       · rw [cmp_cmpS.refl]; decide
       · have : cmpS (spotE x) (spotE y) < 0 := (List.pairwise_cons.1 o2).1 y hy'
         omega
   · intro y
     rw [hel, ← sm y, List.flatMap_cons, List.flatMap_singleton]
     show y ∈ (nd _ i).elems ++ (nd _ (j : Int)).elems ↔ _
     rw [hnd1, hnd2]
     show y ∈ l'.take 4 ++ l'.drop 4 ↔ _
     rw [← e48]
theorem two_ne (l : List DElem) (a : List Int) (b : List DSpot) (c : List Int) : (DNode.mk 2 l a b c).kind ≠ 0 := show (2 : Int) ≠ 0 by decide
theorem ins_fin {e : DElem} {N N2 : NL} {h mf : Nat} {i : Int} {m : Nat} {s : Span} {n : DNode} {Ks : List Int} {Xs : List DSpot} {Ts : List Int} (hnode : nodeAt N i = some n) (hk2 : n.kind = 2) (hM : insM F e (fixD (insB F e) mf) N i n = some ([], Ks, Xs, Ts, N2)) (hi : 0 ≤ i ∧ i < (N2.length : Int)) (hl2 : N2.length ≤ 400)
 (fr : Fr2 N N2 (ids (fN N) (h + 1) i) (i.toNat :: Ks.flatMap (ids (fN N2) h)) (h + 1)) (hole : ∃ x, N2[i.toNat]? = some x ∧ kindN x ≠ 0) (c : Ch (KidP (fN N2) h) Xs s Ks Ts) (h2 : 2 ≤ Ks.length) (h9 : Ks.length ≤ 9) (hm : m ≤ Ks.length) (ho : Xs.Pairwise SpotO) (hx : ∀ x ∈ Xs, chkE (zE x) = 0)
 (el : ∀ x, x ∈ Ks.flatMap (elemsAt (fN N2) h) ↔ x = e ∨ x ∈ elemsAt (fN N) (h + 1) i) : InsOut F e N (h + 1) (mf + 1) i s m := by
 have hI : i.toNat ∈ ids (fN N) (h + 1) i := SubT.head _ _
 have hc2 := fr.chk
 obtain ⟨x1, hx1, hxk1⟩ := hole
 have hiK : i.toNat ∉ Ks.flatMap (ids (fN N2) h) := (List.nodup_cons.1 fr.nodup).1
 have hlens := c.lens
 by_cases h8 : Ks.length ≤ 8
 · have hck := inner_chk (n := ⟨2, [], Ks, Xs, Ts⟩) rfl (inner_mk hc2 hl2 c h2 h8 ho hx)
   have hnd : nd (fN (putAt N2 i ⟨2, [], Ks, Xs, Ts⟩)) i = ⟨2, [], Ks, Xs, Ts⟩ := nd_put hi
   obtain ⟨a1, a2, a3⟩ := kids_agree (N' := putAt N2 i ⟨2, [], Ks, Xs, Ts⟩) (by rw [putAt_length]; exact Nat.le_refl _) c fun j hj => putAt_get N2 (show j ≠ i.toNat from fun h => hiK (by rw [← h]; exact hj))
   refine ⟨putAt N2 i ⟨2, [], Ks, Xs, Ts⟩, z0, 0, false, ?_, .inl ⟨rfl, ⟨?_, ?_, ?_⟩⟩⟩
   · show insB F e (fixD (insB F e) mf) (N, i) = _
     rw [insB_small hnode hM (by simpa using h8) hi, hk2]; rfl
   · refine ((fr.put hI List.mem_cons_self hx1 hxk1 (two_ne _ _ _ _) hck).more (by omega)).cong rfl ?_
     rw [List.flatMap_singleton, ids, hnd, a2]
   · refine ⟨i, _, rfl, rfl, ⟨?_, by rw [hnd], by rw [hnd]; exact hm, by rw [hnd]; exact a1⟩, rfl⟩
     rw [fN_length, putAt_length]; exact hi
   · intro x
     rw [List.flatMap_singleton, elemsAt, hnd, a3]
     exact el x
 · have hk9 : Ks.length = 9 := by omega
   obtain ⟨sp, hsp, hh⟩ := halfX_inner hk9 (show Xs.length = 8 by omega) (show Ts.length = 9 by omega) []
   rw [← hk2] at hh
   obtain ⟨N', j, hB, tk⟩ := insB_large hnode hM (by simpa using hk9) hi (by omega) hh
   rw [hk2] at tk
   have h3 : 3 < Xs.length := by omega
   have hspx : Xs[3] = sp := by rw [List.getElem?_eq_getElem h3] at hsp; exact Option.some.inj hsp
   have eX : Xs = Xs.take 3 ++ sp :: Xs.drop 4 := by rw [← hspx]; exact list_at Xs h3
   have eK : Ks = Ks.take 4 ++ Ks.drop 4 := (List.take_append_drop 4 Ks).symm
   have eT : Ts = Ts.take 4 ++ Ts.drop 4 := (List.take_append_drop 4 Ts).symm
   have l1 : (Ks.take 4).length = 4 := by rw [List.length_take]; omega
   have l2 : (Xs.take 3).length = 3 := by rw [List.length_take]; omega
   have l3 : (Ts.take 4).length = 4 := by rw [List.length_take]; omega
   have l4 : (Ks.drop 4).length = 5 := by rw [List.length_drop]; omega
   have c' := c
   rw [eX, eK, eT] at c'
   have ho' := ho
   rw [eX] at ho'
   obtain ⟨s1, s2, s3⟩ := Ch.split (by omega) (by omega) ho' c'
   obtain ⟨o1, o2, o3⟩ := List.pairwise_append.1 ho'
   have hck1 := inner_chk (n := ⟨2, [], Ks.take 4, Xs.take 3, Ts.take 4⟩) rfl (inner_mk hc2 hl2 s2 (by omega) (by omega) o1 fun x h => hx x (List.mem_of_mem_take h))
   have hck2 := inner_chk (n := ⟨2, [], Ks.drop 4, Xs.drop 4, Ts.drop 4⟩) rfl (inner_mk hc2 hl2 s3 (by omega) (by omega) (List.pairwise_cons.1 o2).2 fun x h => hx x (List.mem_of_mem_drop h))
   have fr1 := fr.put hI List.mem_cons_self hx1 hxk1 (two_ne [] (Ks.take 4) (Xs.take 3) (Ts.take 4)) hck1
   have hat2 : (putAt N2 i ⟨2, [], Ks.take 4, Xs.take 3, Ts.take 4⟩)[i.toNat]? = some (.inr ⟨2, [], Ks.take 4, Xs.take 3, Ts.take 4⟩) := putAt_self _ (by omega)
   have hKu : ∀ q ∈ Ks.flatMap (ids (fN N2) h), ∃ n : DNode, N2[q]? = some (.inr n) ∧ n.kind ≠ 0 := fun q hq => by
    obtain ⟨k, hk, hq⟩ := List.mem_flatMap.1 hq
    obtain ⟨t, s', x, _⟩ := c.mem k hk
    exact x.1.used q hq
   have hne : ∀ q ∈ Ks.flatMap (ids (fN N2) h), q ≠ i.toNat := fun q hq h => hiK (by rw [← h]; exact hq)
   have fr2 := fr1.take tk (two_ne _ _ _ _) hck2 fun q hq => by
    rcases List.mem_cons.1 hq with rfl | hq
    · exact ⟨_, hat2, two_ne _ _ _ _⟩
    · obtain ⟨y, hy, hyk⟩ := hKu q hq
      exact ⟨.inr y, by rw [putAt_get N2 (hne q hq)]; exact hy, hyk⟩
   have hij : i.toNat ≠ j := fun h => by
    subst h
    exact absurd (tk.free _ hat2) (two_ne _ _ _ _)
   have hNi : N'[i.toNat]? = some (.inr ⟨2, [], Ks.take 4, Xs.take 3, Ts.take 4⟩) := by rw [tk.same _ hij]; exact hat2
   have hnd1 : nd (fN N') i = ⟨2, [], Ks.take 4, Xs.take 3, Ts.take 4⟩ := nd_of hNi
   have hnd2 : nd (fN N') (j : Int) = ⟨2, [], Ks.drop 4, Xs.drop 4, Ts.drop 4⟩ := nd_of (by rw [Int.toNat_natCast]; exact tk.at_)
   have hjl : j < N'.length := (List.getElem?_eq_some_iff.1 tk.at_).1
   have hil : i.toNat < N'.length := (List.getElem?_eq_some_iff.1 hNi).1
   have hlen : N2.length ≤ N'.length := by rcases tk.len with h | ⟨h, _⟩ <;> rw [putAt_length] at h <;> omega
   have hag : ∀ q ∈ Ks.flatMap (ids (fN N2) h), N'[q]? = N2[q]? := fun q hq => by
    have hqj : q ≠ j := fun h => by
     subst h
     obtain ⟨y, hy, hyk⟩ := hKu q hq
     exact absurd (tk.free (.inr y) (by rw [putAt_get N2 (hne q hq)]; exact hy)) hyk
    rw [tk.same q hqj, putAt_get N2 (hne q hq)]
   have sub1 : ∀ q ∈ (Ks.take 4).flatMap (ids (fN N2) h), q ∈ Ks.flatMap (ids (fN N2) h) := fun q hq => by
    rw [eK, List.flatMap_append]; exact List.mem_append_left _ hq
   have sub2 : ∀ q ∈ (Ks.drop 4).flatMap (ids (fN N2) h), q ∈ Ks.flatMap (ids (fN N2) h) := fun q hq => by
    rw [eK, List.flatMap_append]; exact List.mem_append_right _ hq
   obtain ⟨a1, a2, a3⟩ := kids_agree hlen s2 fun q hq => hag q (sub1 q hq)
   obtain ⟨b1, b2, b3⟩ := kids_agree hlen s3 fun q hq => hag q (sub2 q hq)
   refine ⟨N', sp, (j : Int), true, hB, .inr ⟨rfl, hx sp (by rw [eX]; simp), ⟨?_, ?_, ?_⟩⟩⟩
   · refine (fr2.perm (K' := i.toNat :: ((Ks.take 4).flatMap (ids (fN N2) h) ++ j :: (Ks.drop 4).flatMap (ids (fN N2) h))) ?_).cong rfl ?_
     · rw [show Ks.flatMap (ids (fN N2) h) = (Ks.take 4).flatMap (ids (fN N2) h) ++ (Ks.drop 4).flatMap (ids (fN N2) h) by rw [← List.flatMap_append, ← eK]]
       exact (List.Perm.swap _ _ _).trans (List.Perm.cons _ List.perm_middle.symm)
     · rw [List.flatMap_cons, List.flatMap_singleton, ids, ids, hnd1, hnd2, a2, b2, Int.toNat_natCast]; rfl
   · refine ⟨i, [(j : Int)], _, _, rfl, rfl, s1, ⟨⟨?_, by rw [hnd1], by rw [hnd1]; show 4 ≤ (Ks.take 4).length; omega, by rw [hnd1]; exact a1⟩, rfl⟩, (j : Int), _, rfl, rfl, ⟨?_, by rw [hnd2], by rw [hnd2]; show 4 ≤ (Ks.drop 4).length; omega, by rw [hnd2]; exact b1⟩, rfl⟩
     · rw [fN_length]; omega
     · rw [fN_length]; omega
   · intro x
     rw [← el x, List.flatMap_cons, List.flatMap_singleton, elemsAt, elemsAt, hnd1, hnd2]
     show x ∈ (Ks.take 4).flatMap _ ++ (Ks.drop 4).flatMap _ ↔ _
     rw [a3, b3, ← List.flatMap_append, ← eK]
theorem spot_mk (sp : DSpot) : DSpot.mk (DKey.mk sp.key.pfs sp.key.obj sp.key.off) sp.made = sp := rfl
theorem ins_code {e : DElem} (he : chkE e = 0) : ∀ (h mf : Nat) (N : NL) (i : Int) (m : Nat) (s : Span), h < mf → ChkL N → N.length ≤ 400 → used N + (h + 1) ≤ 400 → SubT (fN N) h i m s → (ids (fN N) h i).Nodup → inS s (spotE e) = true → (∀ x ∈ elemsAt (fN N) h i, spotE x ≠ spotE e) →
 InsOut F e N h mf i s m := by
 intro h
 induction h with
 | zero => exact fun mf N i m s hm hc hl _ c _ hs hne => ins_leaf he hm hc hl c hs hne
 | succ h ih =>
  intro mf N i m s hm hc hl hu c hn hs hne
  obtain ⟨mf, rfl⟩ : ∃ q, mf = q + 1 := ⟨mf - 1, by omega⟩
  have L := c.inner hc
  have hr := c.range
  rw [fN_length] at hr
  have hus := c.used
  obtain ⟨hnode, hat⟩ := c.node
  have hk0 := c.kind
  obtain ⟨_, hk2, hmk, hch⟩ := c
  obtain ⟨A, k, B, XA, XB, TA, t, TB, s', f⟩ := focus1 L.seps L.tids L.ord hch hs
  have hids : ids (fN N) (h + 1) i = i.toNat :: (A.flatMap (ids (fN N) h) ++ (ids (fN N) h k ++ B.flatMap (ids (fN N) h))) := by
   rw [ids, f.kids, List.flatMap_append, List.flatMap_cons]
  have hels : elemsAt (fN N) (h + 1) i = A.flatMap (elemsAt (fN N) h) ++ (elemsAt (fN N) h k ++ B.flatMap (elemsAt (fN N) h)) := by
   rw [elemsAt, f.kids, List.flatMap_append, List.flatMap_cons]
  generalize hnn : nd (fN N) i = n at *
  have hn0 := hn
  rw [ids, hnn, f.kids] at hn
  obtain ⟨d1, d2, d3⟩ := nodup_parts hn
  have hN1 : ∀ j ∈ ids (fN N) h k, (outAt N i)[j]? = N[j]? := fun j hj => outAt_get N (fun e => d1 (e ▸ hj))
  obtain ⟨q1, q2, q3, q4⟩ := SubT.agree (N' := outAt N i) (by rw [outAt_length]; exact Nat.le_refl _) f.here.1 hN1
  obtain ⟨N2, sp, r, b, hrun, hpost⟩ := ih mf (outAt N i) k 4 s' (by omega) (hc.out i) (by rw [outAt_length]; exact hl) (by rw [used_out]; omega) q1 (by rw [q2]; exact d2) f.in_ (fun x hx => hne x (by rw [hels, ← q3]; simp [hx]))
  have hw : wayR n.seps (spotE e) = A.length := f.way
  have hkl : n.kids.length = A.length + B.length + 1 := by rw [f.kids]; simp; omega
  have h8 := L.eight
  have hta := f.ta
  have hxa := f.xa
  obtain ⟨R, X, P, hXp, hXc, hRl, hXo, hM⟩ : ∃ R X, InsPost e (outAt N i) N2 h k s' 4 R X ∧ (∀ x ∈ X, chkE (zE x) = 0) ∧ X.length + 1 = R.length ∧ R.length ≤ 2 ∧ (XA ++ (X ++ XB)).Pairwise SpotO ∧
   insM F e (fixD (insB F e) mf) N i n = some ([], A ++ (R ++ B), XA ++ (X ++ XB), TA ++ (R.map (fun k => greatR (nd (fN N2) k)) ++ TB), N2) := by
   have hord := L.ord
   rw [f.seps] at hord
   have hcall : ∀ (K : InsT → Option ((List DElem) × (List Int) × (List DSpot) × (List Int) × (List (Int ⊕ DNode)))), True := fun _ => trivial
   rcases hpost with ⟨rfl, P⟩ | ⟨rfl, hsp, P⟩
   · refine ⟨[k], [], P, by simp, rfl, by simp, by simpa using hord, ?_⟩
     obtain ⟨k', t', e1, e2, x⟩ := P.ch
     obtain rfl : k = k' := by simpa using e1
     unfold insM
     rw [hk2, show ((2 : Int) == 1) = false from rfl, cond_false, elem_Spot_eq, Option.bind_some, node_Way_eq n _ (small_chk (inner_chk hk2 L)), Option.bind_some, hw, f.kids, idx_mid, Option.bind_some, hrun, Option.bind_some]
     dsimp only
     rw [Option.bind_some, x.1.node.1, Option.bind_some, great_node P.fr.chk x.1.range, Option.bind_some, f.tids, ← hta, idx_mid, Option.bind_some, cond_false, Int.toNat_natCast, set_len, L.elems, f.seps]
     simp
   · obtain ⟨k', ks', t', ts', e1, e2, i1, x, k2, t2, e3, e4, y⟩ := P.ch
     obtain ⟨rfl, rfl⟩ : k = k' ∧ [r] = ks' := by simpa using e1
     obtain rfl : r = k2 := by simpa using e3
     refine ⟨[k, r], [sp], P, by simpa using hsp, rfl, by simp, ?_, ?_⟩
     · obtain ⟨p1, p2, p3⟩ := List.pairwise_append.1 hord
       obtain ⟨y0, hy0⟩ := x.1.some_elem P.fr.chk
       have hy1 := (inS_hiS.1 ((x.1.elems P.fr.chk).2 y0 hy0).1)
       have hy2 := inS_hi_sub i1 ((x.1.elems P.fr.chk).2 y0 hy0).1
       have hlo : ∀ z ∈ XA, SpotO z sp := fun z hz => cmpS_le_lt (f.loX z hz _ hy2) hy1.2
       have hhi : ∀ z ∈ XB, SpotO sp z := fun z hz => f.hiX z hz sp i1
       refine List.pairwise_append.2 ⟨p1, List.pairwise_cons.2 ⟨hhi, p2⟩, fun a ha b hb => ?_⟩
       rcases List.mem_cons.1 hb with rfl | hb
       · exact hlo a ha
       · exact p3 a ha b hb
     · have hXl : n.seps.length = A.length + B.length := by have := L.seps; omega
       have htl : (TA ++ greatR (nd (fN N2) k) :: TB).length = A.length + B.length + 1 := by have := f.tb; simp; omega
       unfold insM
       rw [hk2, show ((2 : Int) == 1) = false from rfl, cond_false, elem_Spot_eq, Option.bind_some, node_Way_eq n _ (small_chk (inner_chk hk2 L)), Option.bind_some, hw, f.kids, idx_mid, Option.bind_some, hrun, Option.bind_some]
       dsimp only
       rw [Option.bind_some, x.1.node.1, Option.bind_some, great_node P.fr.chk x.1.range, Option.bind_some, f.tids, show idx (TA ++ t :: TB) (A.length : Int) = some t by rw [← hta]; exact idx_mid _ _ _, Option.bind_some, cond_true, w64 (by omega) (by omega), Int.toNat_natCast, show (TA ++ t :: TB).set A.length (greatR (nd (fN N2) k)) = TA ++ greatR (nd (fN N2) k) :: TB by rw [← hta]; exact set_len _ _ _ _, spot_mk]
       have hi1 : inss 8 (A ++ k :: B) ((A.length : Int) + 1) r = some (A ++ (k :: r :: B)) := by
        unfold inss
        rw [if_pos ⟨by omega, by simp; omega, by simp; omega, by unfold maxLen; simp; omega⟩, show ((A.length : Int) + 1).toNat = A.length + 1 by omega]
        unfold insAt
        rw [show A ++ k :: B = (A ++ [k]) ++ B by simp, List.take_left' (by simp), List.drop_left' (by simp)]; simp
       have hi2 : inss 32 n.seps (A.length : Int) sp = some (XA ++ sp :: XB) := by
        unfold inss
        rw [if_pos ⟨by omega, by omega, by omega, by unfold maxLen; omega⟩, Int.toNat_natCast]
        unfold insAt
        rw [f.seps, List.take_left' hxa, List.drop_left' hxa]
       have hi3 : inss 8 (TA ++ greatR (nd (fN N2) k) :: TB) ((A.length : Int) + 1) (greatR (nd (fN N2) r)) = some (TA ++ (greatR (nd (fN N2) k) :: greatR (nd (fN N2) r) :: TB)) := by
        unfold inss
        rw [if_pos ⟨by omega, by omega, by omega, by unfold maxLen; omega⟩, show ((A.length : Int) + 1).toNat = A.length + 1 by omega]
        unfold insAt
        rw [show TA ++ greatR (nd (fN N2) k) :: TB = (TA ++ [greatR (nd (fN N2) k)]) ++ TB by simp, List.take_left' (by simp; omega), List.drop_left' (by simp; omega)]; simp
       obtain ⟨_, _, _, _, j1⟩ := inss_some hi1
       obtain ⟨_, _, _, _, j2⟩ := inss_some hi2
       obtain ⟨_, _, _, _, j3⟩ := inss_some hi3
       rw [Int.toNat_natCast] at j2
       rw [hi1, Option.bind_some, hi2, Option.bind_some, y.1.node.1, Option.bind_some, great_node P.fr.chk y.1.range, Option.bind_some, hi3, Option.bind_some, j1, j2, j3, L.elems]
       simp
  have hl2 : N2.length ≤ 400 := by
   have h1 := P.fr.cap
   have h2 := P.fr.use
   rw [outAt_length] at h1
   rw [used_out] at h2
   omega
  have hr2 : 0 ≤ i ∧ i < (N2.length : Int) := by
   have := P.fr.len
   rw [outAt_length] at this
   omega
  have hab : ∀ a, a ∈ A ∨ a ∈ B → ∀ j ∈ ids (fN N) h a, N2[j]? = N[j]? := fun a ha j hj => by
   obtain ⟨x1, x2⟩ := d3 a ha
   obtain ⟨y, hy, hyk⟩ := hus j (by
    rw [hids]
    rcases ha with ha | ha
    · simp only [List.mem_cons, List.mem_append, List.mem_flatMap]; exact .inr (.inl ⟨a, ha, hj⟩)
    · simp only [List.mem_cons, List.mem_append, List.mem_flatMap]; exact .inr (.inr (.inr ⟨a, ha, hj⟩)))
   have hji : j ≠ i.toNat := fun e => x1 (e ▸ hj)
   rw [P.fr.out j (.inr y) (by rw [q2]; exact x2 j hj) (by rw [outAt_get N hji]; exact hy) hyk, hy]
  have hlen2 : N.length ≤ N2.length := by have := P.fr.len; rwa [outAt_length] at this
  have other : ∀ a, a ∈ A ∨ a ∈ B → ∀ {m : Nat} {s : Span}, SubT (fN N) h a m s → _ := fun a ha m s c => SubT.agree (N := N) (N' := N2) hlen2 c (hab a ha)
  have c2 := f.turn (KidP (fN N2) h) (fun a t' s'' ha x => ⟨(other a ha x.1).1, by rw [(other a ha x.1).2.2.2]; exact x.2⟩) R X _ P.ch
  have hkids : ∀ a, a ∈ A ∨ a ∈ B → ∃ t' s'', SubT (fN N) h a 4 s'' := fun a ha => by
   rcases ha with ha | ha
   · obtain ⟨t', s'', x1, _⟩ := f.lo a ha; exact ⟨t', s'', x1.1⟩
   · obtain ⟨t', s'', x1, _⟩ := f.hi a ha; exact ⟨t', s'', x1.1⟩
  have flat : ∀ (l : List Int), (∀ a ∈ l, a ∈ A ∨ a ∈ B) → l.flatMap (ids (fN N2) h) = l.flatMap (ids (fN N) h) ∧ l.flatMap (elemsAt (fN N2) h) = l.flatMap (elemsAt (fN N) h) := fun l hl => by
   constructor
   · exact flat_same fun a ha => by obtain ⟨t', s'', x1⟩ := hkids a (hl a ha); exact (other a (hl a ha) x1).2.1
   · exact flatMap_same fun a ha => by obtain ⟨t', s'', x1⟩ := hkids a (hl a ha); exact (other a (hl a ha) x1).2.2.1
  have fr := P.fr.up (i := i.toNat) (I1 := A.flatMap (ids (fN N) h)) (I3 := B.flatMap (ids (fN N) h)) rfl (by rw [q2, ← hids]; exact hn0) (fun j hj => hus j (by rw [hids, ← q2]; exact hj))
  rw [q2, ← hids] at fr
  have hK : (A ++ (R ++ B)).flatMap (ids (fN N2) h) = A.flatMap (ids (fN N) h) ++ (R.flatMap (ids (fN N2) h) ++ B.flatMap (ids (fN N) h)) := by
   rw [List.flatMap_append, List.flatMap_append, (flat A fun a ha => .inl ha).1, (flat B fun a ha => .inr ha).1]
  refine ins_fin hnode hk2 hM hr2 hl2 (fr.cong rfl (by rw [hK])) (fr.kept _ _ hat hk0) c2 ?_ ?_ ?_ hXo ?_ ?_
  · have := L.two; simp; omega
  · simp; omega
  · simp; omega
  · intro x hx
    rcases List.mem_append.1 hx with hx | hx
    · exact L.ok x (by rw [f.seps]; exact List.mem_append_left _ hx)
    · rcases List.mem_append.1 hx with hx | hx
      · exact hXp x hx
      · exact L.ok x (by rw [f.seps]; exact List.mem_append_right _ hx)
  · intro x
    have hp := P.elems x
    rw [q3] at hp
    rw [List.flatMap_append, List.flatMap_append, (flat A fun a ha => .inl ha).2, (flat B fun a ha => .inr ha).2, hels, List.mem_append, List.mem_append, hp, List.mem_append, List.mem_append]
    constructor
    · rintro (h | (h | h) | h)
      · exact .inr (.inl h)
      · exact .inl h
      · exact .inr (.inr (.inl h))
      · exact .inr (.inr (.inr h))
    · rintro (h | h | h | h)
      · exact .inr (.inl (.inl h))
      · exact .inl h
      · exact .inr (.inl (.inr h))
      · exact .inr (.inr h)
end Go.Proofs.Ytcmkdoahkncakaa
namespace Go.Proofs.Ytcmkdoahkncakaa
set_option linter.unusedVariables false
end Go.Proofs.Ytcmkdoahkncakaa
namespace Go.Proofs.Ytcmkdoahkncakaa
set_option linter.unusedVariables false
set_option linter.unusedSimpArgs false
variable {F : Nat} [Big F]
theorem node_Copy_eq {n : DNode} (h : chkN n = 0) : node_Copy n = some n := by
 obtain ⟨h1, h2⟩ := small8 h
 have h3 : n.seps.length ≤ 8 ∧ n.tids.length ≤ 8 := by
  rcases chkN_zero.1 h with h | h | h
  · rw [h.2.2.2.1, h.2.2.2.2]; simp
  · rw [h.2.seps, h.2.tids]; simp
  · have := h.2.seps; have := h.2.tids; omega
 unfold node_Copy
 rw [grow_ok (by simp; omega) (by simp; omega), Option.bind_some, grow_ok (by simp; omega) (by simp; omega), Option.bind_some, grow_ok (by simp; omega) (by simp; omega), Option.bind_some, grow_ok (by simp; omega) (by simp; omega), Option.bind_some]
 rfl
theorem allN_of {N : NL} (h : ∀ (j : Nat) (k : Int), N[j]? ≠ some (.inl k)) : allN N = some (fN N) := by
 have e : N = (fN N).map Sum.inr := List.ext_getElem? fun j => by
  rw [List.getElem?_map, fN_get]
  cases hj : N[j]? with
  | none => rfl
  | some x =>
   cases x with
   | inl k => exact absurd hj (h j k)
   | inr n => rfl
 conv => lhs; rw [e]
 exact allN_map _
theorem tree_Copy_eq {t : DTree} (hl : t.nodes.length ≤ 400) (hc : ∀ n ∈ t.nodes, chkN n = 0) : tree_Copy F t = some t := by
 unfold tree_Copy
 rw [loop_run (fun k => ((t.nodes.take k).map (Sum.inr : DNode → Int ⊕ DNode), (k : Int))) t.nodes.length (by simp) (by omega) (fun k hk => ?_) (r := t.nodes.map Sum.inr) ?_, Option.bind_some, allN_map, Option.bind_some]
 · dsimp only
   rw [decide_eq_false (by omega), cond_false, List.take_length]
 · have hg : t.nodes[k]? = some t.nodes[k] := List.getElem?_eq_getElem hk
   have hr : roomN 104 (((t.nodes.take k).map (Sum.inr : DNode → Int ⊕ DNode)).length + 1) = some () := by
    unfold roomN; rw [List.length_map, List.length_take, if_pos ⟨by omega, by unfold maxLen; omega⟩]
   dsimp only
   rw [decide_eq_true (by omega), cond_true, idx_nat', hg, Option.bind_some, node_Copy_eq (hc _ (List.getElem_mem _)), Option.bind_some, hr, Option.bind_some, w64 (by omega) (by omega), List.take_add_one, hg, List.map_append]
   rfl
def nlT (t : DTree) : NL := t.nodes.map Sum.inr
theorem fN_nl (t : DTree) : fN (nlT t) = t.nodes := fN_inr _
theorem nl_get {t : DTree} {j : Nat} {x : Int ⊕ DNode} (h : (nlT t)[j]? = some x) : ∃ n, t.nodes[j]? = some n ∧ x = .inr n := by
 unfold nlT at h
 rw [List.getElem?_map] at h
 obtain ⟨n, hn, rfl⟩ := Option.map_eq_some_iff.1 h
 exact ⟨n, hn, rfl⟩
theorem good_chk {t : DTree} {h : Nat} (g : Good t h) : ChkL (nlT t) := fun n hn => by rw [fN_nl] at hn; exact g.chk n hn
theorem good_sub {t : DTree} {h : Nat} (g : Good t h) : SubT (fN (nlT t)) h t.root (mOf 0 h) topS := by
 rw [fN_nl]; exact (okN_sub g.chk h t.root 0 topS (Int.le_refl _)).1 g.ok
theorem count_le {α : Type} {p : α → Bool} : ∀ {N : List α} {K : List Nat}, K.Nodup → (∀ (j : Nat) (x : α), N[j]? = some x → p x = true → j ∈ K) → N.countP p ≤ K.length
 | [], K, _, _ => Nat.zero_le _
 | a :: N, K, hn, h => by
  have hK : ∀ (j : Nat) (x : α), N[j]? = some x → p x = true → j ∈ (K.filter (fun j => j != 0)).map (· - 1) := fun j x hx hp =>
   List.mem_map.2 ⟨j + 1, List.mem_filter.2 ⟨h (j + 1) x (by simpa using hx) hp, by simp⟩, by simp⟩
  have hnd : ((K.filter (fun j => j != 0)).map (· - 1)).Nodup := by
   unfold List.Nodup
   rw [List.pairwise_map]
   refine ((hn.filter _).imp_of_mem fun {a b} ha hb hab e => hab ?_)
   have h1 := (List.mem_filter.1 ha).2
   have h2 := (List.mem_filter.1 hb).2
   simp only [bne_iff_ne, ne_eq] at h1 h2
   omega
  have ih := count_le hnd hK
  rw [List.length_map] at ih
  rw [List.countP_cons]
  by_cases hp : p a = true
  · have h0 : 0 ∈ K := h 0 a rfl hp
    have hlt : (K.filter (fun j => j != 0)).length < K.length := List.length_filter_lt_length_iff_exists.2 ⟨0, h0, by simp⟩
    rw [if_pos hp]; omega
  · have := List.length_filter_le (fun j => j != 0) K
    rw [if_neg hp]; omega
theorem good_used {t : DTree} {h : Nat} (g : Good t h) : used (nlT t) ≤ (ids t.nodes h t.root).length := by
 refine count_le g.nodup fun j x hx hp => ?_
 obtain ⟨n, hn, rfl⟩ := nl_get hx
 have hlt := (List.getElem?_eq_some_iff.1 hn).1
 exact g.all j hlt (by rw [nd_at hn]; exact usedB_iff.1 hp)
theorem ids_few {ns : List DNode} (hns : ∀ n ∈ ns, chkN n = 0) : ∀ {h : Nat} {i : Int} {s : Span}, SubT ns h i 4 s → 3 * (ids ns h i).length + 1 ≤ (elemsAt ns h i).length := by
 intro h
 induction h with
 | zero =>
  intro i s c
  have := c.2.2.1
  simp only [ids, elemsAt, List.length_singleton]; omega
 | succ h ih =>
  intro i s c
  rw [ids, elemsAt, List.length_cons, List.length_flatMap, List.length_flatMap]
  have key : ∀ l : List Int, (∀ k ∈ l, 3 * (ids ns h k).length + 1 ≤ (elemsAt ns h k).length) → 3 * (l.map fun a => (ids ns h a).length).sum + l.length ≤ (l.map fun a => (elemsAt ns h a).length).sum := by
   intro l
   induction l with
   | nil => intro _; simp
   | cons a l ihl =>
    intro hk
    have := ihl fun k h => hk k (List.mem_cons_of_mem _ h)
    have := hk a List.mem_cons_self
    simp only [List.map_cons, List.sum_cons, List.length_cons]; omega
  have := key (nd ns i).kids fun k hk => by obtain ⟨t, s', x, _⟩ := c.2.2.2.mem k hk; exact ih x.1
  have := c.2.2.1
  omega
theorem good_few {t : DTree} {h : Nat} (g : Good t h) (hl : (elemsAt t.nodes h t.root).length ≤ 400) : (ids t.nodes h t.root).length ≤ 134 ∧ h < 134 := by
 have hh := ids_height g.chk h t.root 0 topS g.ok
 have c := good_sub g
 rw [fN_nl] at c
 have : (ids t.nodes h t.root).length ≤ 134 := by
  cases h with
  | zero => simp [ids]
  | succ h =>
   have key : ∀ l : List Int, (∀ k ∈ l, 3 * (ids t.nodes h k).length + 1 ≤ (elemsAt t.nodes h k).length) → 3 * (l.map fun a => (ids t.nodes h a).length).sum + l.length ≤ (l.map fun a => (elemsAt t.nodes h a).length).sum := by
    intro l
    induction l with
    | nil => intro _; simp
    | cons a l ihl =>
     intro hk
     have := ihl fun k h => hk k (List.mem_cons_of_mem _ h)
     have := hk a List.mem_cons_self
     simp only [List.map_cons, List.sum_cons, List.length_cons]; omega
   have h1 := key (nd t.nodes t.root).kids fun k hk => by obtain ⟨t', s', x, _⟩ := c.2.2.2.mem k hk; exact ids_few g.chk x.1
   have h2 : 2 ≤ (nd t.nodes t.root).kids.length := by have := c.2.2.1; unfold mOf at this; simpa using this
   rw [elemsAt, List.length_flatMap] at hl
   rw [ids, List.length_cons, List.length_flatMap]
   omega
 omega
theorem good_of {N : NL} {h : Nat} {root : Int} (hc : ChkL N) (hl : N.length ≤ 400) (c : SubT (fN N) h root (mOf 0 h) topS) (hn : (ids (fN N) h root).Nodup) (hall : ∀ (j : Nat) (x : Int ⊕ DNode), N[j]? = some x → kindN x ≠ 0 → j ∈ ids (fN N) h root) : Good ⟨root, fN N⟩ h := by
 refine ⟨by show (fN N).length ≤ 400; rw [fN_length]; exact hl, hc, (okN_sub hc h root 0 topS (Int.le_refl _)).2 c, hn, fun i hi hk => ?_⟩
 have hi' : i < (fN N).length := hi
 rw [fN_length] at hi'
 have hg : N[i]? = some N[i] := List.getElem?_eq_getElem hi'
 refine hall i _ hg fun h0 => hk ?_
 have : nd (fN N) (i : Int) = fN1 N[i] := by unfold nd; rw [Int.toNat_natCast, fN_get, hg]; rfl
 rw [this]
 cases hx : N[i] with
 | inl k => rfl
 | inr n => rw [hx] at h0; exact h0
theorem no_holes {t : DTree} {h : Nat} (g : Good t h) {N' : NL} {K : List Nat} {c : Nat} (f : Fr2 (nlT t) N' (ids (fN (nlT t)) h t.root) K c) (hK : ∀ j ∈ K, ∃ n : DNode, N'[j]? = some (.inr n) ∧ n.kind ≠ 0) : ∀ (j : Nat) (k : Int), N'[j]? ≠ some (.inl k) := fun j k hj => by
 have hold : ∀ (j : Nat) (x : Int ⊕ DNode), (nlT t)[j]? = some x → kindN x ≠ 0 → j ∈ ids (fN (nlT t)) h t.root := fun j x hx hk => by
  obtain ⟨n, hn, rfl⟩ := nl_get hx
  rw [fN_nl]
  exact g.all j (List.getElem?_eq_some_iff.1 hn).1 (by rw [nd_at hn]; exact hk)
 by_cases hk : k = 0
 · subst hk
   obtain ⟨n, _, h⟩ := nl_get (f.zero j hj)
   cases h
 · rcases f.all j _ hj hk with h | ⟨h, y, hy, hyk⟩
   · obtain ⟨n, hn, _⟩ := hK j h
     rw [hn] at hj; cases hj
   · exact h (hold j y hy hyk)
theorem all_new {t : DTree} {h : Nat} (g : Good t h) {N' : NL} {K : List Nat} {c : Nat} (f : Fr2 (nlT t) N' (ids (fN (nlT t)) h t.root) K c) : ∀ (j : Nat) (x : Int ⊕ DNode), N'[j]? = some x → kindN x ≠ 0 → j ∈ K := fun j x hx hk => by
 rcases f.all j x hx hk with h | ⟨h, y, hy, hyk⟩
 · exact h
 · obtain ⟨n, hn, rfl⟩ := nl_get hy
   exact absurd (by rw [fN_nl]; exact g.all j (List.getElem?_eq_some_iff.1 hn).1 (by rw [nd_at hn]; exact hyk)) h
theorem addX_good {t : DTree} {h : Nat} {e : DElem} (g : Good t h) (he : chkE e = 0) (hne : ∀ x ∈ elemsAt t.nodes h t.root, spotE x ≠ spotE e) (hl : (elemsAt t.nodes h t.root).length ≤ 400) :
 ∃ (root : Int) (N : NL), addX F e (nlT t) t.root = some (root, N) ∧ allN N = some (fN N) ∧ ∃ h', Good ⟨root, fN N⟩ h' ∧ elemsAt (fN N) h' root = ins1 (elemsAt t.nodes h t.root) e := by
 obtain ⟨f1, f2⟩ := good_few g hl
 have hu := good_used g
 have hF := (inferInstance : Big F).le
 have c := good_sub g
 have hsort := (elems_sorted g.chk h t.root 0 topS g.ok).1
 have hlen : (nlT t).length ≤ 400 := by unfold nlT; rw [List.length_map]; exact g.len
 obtain ⟨N', sp, r, b, hrun, hpost⟩ := ins_code (F := F) he h F (nlT t) t.root (mOf 0 h) topS (by omega) (good_chk g) hlen (by omega) c (by rw [fN_nl]; exact g.nodup) rfl (by rw [fN_nl]; exact hne)
 have sorted : ∀ {ns : List DNode} {h' : Nat} {root : Int}, Good ⟨root, ns⟩ h' → (∀ x, x ∈ elemsAt ns h' root ↔ x = e ∨ x ∈ elemsAt t.nodes h t.root) → elemsAt ns h' root = ins1 (elemsAt t.nodes h t.root) e := fun {ns h' root} gg hm => by
  refine spo_ext (elems_sorted gg.chk h' root 0 topS gg.ok).1 (ins1_sorted hsort e) fun x => ?_
  rw [hm x, mem_ins1]
  constructor
  · rintro (h | h)
    · exact .inl h
    · exact .inr ⟨h, hne x h⟩
  · rintro (h | h)
    · exact .inl h
    · exact .inr h.1
 unfold addX
 rw [hrun, Option.bind_some]
 dsimp only
 rcases hpost with ⟨rfl, P⟩ | ⟨rfl, hsp, P⟩
 · obtain ⟨k, t', e1, e2, x⟩ := P.ch
   obtain rfl : t.root = k := by simpa using e1
   have hK : [t.root].flatMap (ids (fN N') h) = ids (fN N') h t.root := List.flatMap_singleton ..
   have fr := P.fr
   rw [hK] at fr
   have hcap : N'.length ≤ 400 := by have := fr.cap; have := fr.use; omega
   have gg := good_of fr.chk hcap x.1 fr.nodup (all_new g fr)
   refine ⟨t.root, N', rfl, allN_of (no_holes g fr x.1.used), h, gg, sorted gg fun y => ?_⟩
   have := P.elems y
   rw [List.flatMap_singleton, fN_nl] at this
   exact this
 · obtain ⟨k, ks', t', ts', e1, e2, i1, x, k2, t2, e3, e4, y⟩ := P.ch
   obtain ⟨rfl, rfl⟩ : t.root = k ∧ [r] = ks' := by simpa using e1
   obtain rfl : r = k2 := by simpa using e3
   have hK : [t.root, r].flatMap (ids (fN N') h) = ids (fN N') h t.root ++ ids (fN N') h r := by simp
   have fr := P.fr
   rw [hK] at fr
   have hcap : N'.length ≤ 400 := by have := fr.cap; have := fr.use; omega
   have hKu : ∀ q ∈ ids (fN N') h t.root ++ ids (fN N') h r, ∃ n : DNode, N'[q]? = some (.inr n) ∧ n.kind ≠ 0 := fun q hq => by
    rcases List.mem_append.1 hq with hq | hq
    · exact x.1.used q hq
    · exact y.1.used q hq
   obtain ⟨N2, j, hT, tk⟩ := takeX_eq (F := F) (N := N') ⟨2, [], [t.root, r], [sp], [greatR (nd (fN N') t.root), greatR (nd (fN N') r)]⟩ (by omega)
   have cc : Ch (KidP (fN N') h) [sp] topS [t.root, r] [greatR (nd (fN N') t.root), greatR (nd (fN N') r)] := ⟨t.root, [r], _, _, rfl, rfl, i1, ⟨x.1, rfl⟩, r, _, rfl, rfl, ⟨y.1, rfl⟩⟩
   have hck := inner_chk (n := ⟨2, [], [t.root, r], [sp], [greatR (nd (fN N') t.root), greatR (nd (fN N') r)]⟩) rfl (inner_mk fr.chk hcap cc (by simp) (by simp) (List.pairwise_singleton _ _) (by simpa using hsp))
   have fr2 := fr.take tk (two_ne _ _ _ _) hck fun q hq => by obtain ⟨n, hn, hk⟩ := hKu q hq; exact ⟨_, hn, hk⟩
   have hlen2 : N'.length ≤ N2.length := by rcases tk.len with h | ⟨h, _⟩ <;> omega
   have hjK : ∀ q ∈ ids (fN N') h t.root ++ ids (fN N') h r, N2[q]? = N'[q]? := fun q hq => tk.same q fun e => by
    subst e
    obtain ⟨n, hn, hk⟩ := hKu q hq
    exact absurd (tk.free _ hn) hk
   obtain ⟨a1, a2, a3⟩ := kids_agree hlen2 cc fun q hq => hjK q (by rw [hK] at hq; exact hq)
   have hnd : nd (fN N2) (j : Int) = ⟨2, [], [t.root, r], [sp], [greatR (nd (fN N') t.root), greatR (nd (fN N') r)]⟩ := nd_of (by rw [Int.toNat_natCast]; exact tk.at_)
   have hjl : j < N2.length := (List.getElem?_eq_some_iff.1 tk.at_).1
   have hids : ids (fN N2) (h + 1) (j : Int) = j :: (ids (fN N') h t.root ++ ids (fN N') h r) := by
    rw [ids, hnd, Int.toNat_natCast]
    show j :: [t.root, r].flatMap _ = _
    rw [a2, hK]
   have sub : SubT (fN N2) (h + 1) (j : Int) (mOf 0 (h + 1)) topS := ⟨by rw [fN_length]; omega, by rw [hnd], by rw [hnd]; unfold mOf; simp, by rw [hnd]; exact a1⟩
   rw [← hids] at fr2
   have hcap2 : N2.length ≤ 400 := by have := fr2.cap; have := fr2.use; omega
   have gg := good_of fr2.chk hcap2 sub fr2.nodup (all_new g fr2)
   refine ⟨(j : Int), N2, ?_, allN_of (no_holes g fr2 sub.used), h + 1, gg, sorted gg fun z => ?_⟩
   · rw [Bool.not_true, cond_false, x.1.node.1, Option.bind_some, y.1.node.1, Option.bind_some, great_node fr.chk x.1.range, Option.bind_some, great_node fr.chk y.1.range, Option.bind_some, spot_mk, hT, Option.bind_some]
   · have := P.elems z
     rw [fN_nl] at this
     rw [← this, elemsAt, hnd]
     show z ∈ [t.root, r].flatMap _ ↔ _
     rw [a3]
def anyS (e : DElem) (l : List DElem) : Bool := l.any fun x => spotE x == spotE e
theorem anyS_iff {e : DElem} {l : List DElem} : anyS e l = true ↔ ∃ x ∈ l, spotE x = spotE e := by
 unfold anyS; rw [List.any_eq_true]
 constructor
 · rintro ⟨x, hx, h⟩; exact ⟨x, hx, by simpa using h⟩
 · rintro ⟨x, hx, h⟩; exact ⟨x, hx, by simpa using h⟩
theorem anyS_no {e : DElem} {l : List DElem} (h : anyS e l = false) : ∀ x ∈ l, spotE x ≠ spotE e := fun x hx hs => by
 rw [anyS_iff.2 ⟨x, hx, hs⟩] at h; cases h
theorem anyS_append (e : DElem) (a b : List DElem) : anyS e (a ++ b) = (anyS e a || anyS e b) := List.any_append
def preL (ns : List DNode) (m : Nat) (x : Bool × Int × Int) : Prop := kidOk ns m x.2.2 ∧ 0 ≤ x.2.1 ∧ x.2.1 + ((elemsF ns m x.2.2).length : Int) ≤ 100000
def specL (ns : List DNode) (e : DElem) (m : Nat) (x : Bool × Int × Int) : Bool × Int := (x.1 || anyS e (elemsF ns m x.2.2), x.2.1 + ((elemsF ns m x.2.2).length : Int))
theorem flat_take {α β : Type} (f : α → List β) {l : List α} {k : Nat} (hk : k < l.length) : (l.take (k + 1)).flatMap f = (l.take k).flatMap f ++ f l[k] ∧ ((l.take k).flatMap f).length + (f l[k]).length ≤ (l.flatMap f).length := by
 have h1 : (l.take (k + 1)).flatMap f = (l.take k).flatMap f ++ f l[k] := by
  rw [List.take_add_one, List.getElem?_eq_getElem hk, List.flatMap_append]; simp
 refine ⟨h1, ?_⟩
 have h2 : l.flatMap f = (l.take (k + 1)).flatMap f ++ (l.drop (k + 1)).flatMap f := by rw [← List.flatMap_append, List.take_append_drop]
 rw [h2, h1, List.length_append, List.length_append]; omega
theorem grow_look_good {t : DTree} (hs : ∀ n ∈ t.nodes, Small n) {h : Nat} (hg : Good t h) {e : DElem} (he : chkE e = 0) : grow_look F t e = some (((elemsAt t.nodes h t.root).length : Int), anyS e (elemsAt t.nodes h t.root), 0) := by
 have hF := (inferInstance : Big F).le
 have h4 := good_fuel hg
 have hz : chkT F t = 0 := chkT_zero.2 ⟨h, hg⟩
 have hel := elemsF_eq hg.chk h F t.root 0 topS hg.ok (by omega)
 unfold grow_look
 rw [tree_Check_eq t hs, Option.bind_some, bne0_false hz, cond_false, elem_Check_eq, Option.bind_some, bne0_false he, cond_false]
 rw [fix_spec (preL t.nodes) (specL t.nodes e) ?h0 ?hstep F _ ?hpre]
 case h0 =>
  rintro ⟨x1, x2, x3⟩ ⟨⟨h, d, s, hm, _⟩, _⟩
  omega
 case hpre => exact ⟨⟨h, 0, topS, by omega, hg.ok⟩, Int.le_refl _, by dsimp only; rw [hel]; have := good_small hg; omega⟩
 case hstep =>
  rintro m self ih ⟨b, c, i⟩ ⟨hok, hc0, hc1⟩
  obtain ⟨⟨i0, i1⟩, hkids⟩ := hok.kids hg.chk
  dsimp only at hc0 hc1 i0 i1 hkids
  obtain ⟨e8, k8⟩ := small8 (hg.chk _ (nd_mem i0 i1))
  rw [elemsF, List.length_append] at hc1
  dsimp only
  rw [nd_get i0 i1, Option.bind_some]
  rw [loop_run (fun k => (b || anyS e ((nd t.nodes i).elems.take k), c + (k : Int), (k : Int))) (nd t.nodes i).elems.length (r := (b || anyS e (nd t.nodes i).elems, c + ((nd t.nodes i).elems.length : Int))) (by simp [anyS]) (by omega) ?s1 ?e1]
  case s1 =>
   intro k hk
   have hgk : (nd t.nodes i).elems[k]? = some (nd t.nodes i).elems[k] := List.getElem?_eq_getElem hk
   dsimp only
   rw [decide_eq_true (by omega), cond_true, idx_nat', hgk, Option.bind_some, List.take_add_one, hgk, anyS_append, w64 (by omega) (by omega), w64 (by omega) (by omega)]
   have e1 : c + (k : Int) + 1 = c + ((k + 1 : Nat) : Int) := by omega
   have e2 : (k : Int) + 1 = ((k + 1 : Nat) : Int) := by omega
   rw [e1, e2]
   cases hb : (b || anyS e ((nd t.nodes i).elems.take k)) with
   | true => rw [cond_true, Option.bind_some, ← Bool.or_assoc, hb]; rfl
   | false =>
    rw [cond_false, elem_Spot_eq, Option.bind_some, elem_Spot_eq, Option.bind_some, Option.bind_some, ← Bool.or_assoc, hb, Bool.false_or]
    simp [anyS]
  case e1 =>
   dsimp only
   rw [decide_eq_false (by omega), cond_false, List.take_length]
  rw [Option.bind_some]
  dsimp only
  have hlen : ((nd t.nodes i).kids.flatMap (elemsF t.nodes m)).length ≤ 100000 := by omega
  rw [loop_run (fun k => (b || anyS e (nd t.nodes i).elems || anyS e (((nd t.nodes i).kids.take k).flatMap (elemsF t.nodes m)), c + ((nd t.nodes i).elems.length : Int) + ((((nd t.nodes i).kids.take k).flatMap (elemsF t.nodes m)).length : Int), (k : Int))) (nd t.nodes i).kids.length
   (r := (b || anyS e (nd t.nodes i).elems || anyS e ((nd t.nodes i).kids.flatMap (elemsF t.nodes m)), c + ((nd t.nodes i).elems.length : Int) + (((nd t.nodes i).kids.flatMap (elemsF t.nodes m)).length : Int))) (by simp [anyS]) (by omega) ?s2 ?e2]
  case s2 =>
   intro k hk
   have hgk : (nd t.nodes i).kids[k]? = some (nd t.nodes i).kids[k] := List.getElem?_eq_getElem hk
   obtain ⟨q1, q2⟩ := flat_take (elemsF t.nodes m) hk
   dsimp only
   rw [decide_eq_true (by omega), cond_true, idx_nat', hgk, Option.bind_some, ih _ ⟨hkids _ (List.getElem_mem _), by dsimp only; omega, by dsimp only; omega⟩, Option.bind_some]
   unfold specL
   dsimp only
   rw [q1, anyS_append, List.length_append, w64 (by omega) (by omega), Bool.or_assoc, Int.add_assoc (c + _)]
   rfl
  case e2 =>
   dsimp only
   rw [decide_eq_false (by omega), cond_false, List.take_length]
  rw [Option.bind_some]
  dsimp only
  unfold specL
  dsimp only
  rw [elemsF, anyS_append, List.length_append, Bool.or_assoc]
  congr 2; omega
 rw [Option.bind_some]
 dsimp only
 rw [Option.bind_some]
 unfold specL
 dsimp only
 rw [hel, Bool.false_or, Int.zero_add]
theorem elems_ord {t : DTree} {h : Nat} (g : Good t h) : (elemsAt t.nodes h t.root).Pairwise SpO := (elems_sorted g.chk h t.root 0 topS g.ok).1
theorem chk_small {t : DTree} {h : Nat} (g : Good t h) : ∀ n ∈ t.nodes, Small n := fun n hn => small_chk (g.chk n hn)
def newT : DTree := ⟨0, [⟨1, [], [], [], []⟩]⟩
theorem newT_good : Good newT 0 := by
 have hc : chkN ⟨1, [], [], [], []⟩ = 0 := chkN_zero.2 (.inr (.inl ⟨rfl, ⟨rfl, rfl, rfl, Nat.zero_le _, fun e he => (by cases he), List.Pairwise.nil⟩⟩))
 refine ⟨by simp [newT], fun n hn => ?_, ⟨⟨by decide, by simp [newT]⟩, rfl, fun h => absurd h (by decide), fun x hx => (by cases hx)⟩, by simp [newT, ids], fun i hi _ => ?_⟩
 · obtain rfl : n = ⟨1, [], [], [], []⟩ := by simpa [newT] using hn
   exact hc
 · simp [newT, ids] at hi ⊢; exact hi
omit [Big F] in
theorem grow_Insert_eq (t : DTree) (e : DElem) : grow_Insert F t e = (grow_look F t e).bind fun r1 => bif (r1.2.2 != 0) then some (DTree.mk 0 [], r1.2.2) else bif r1.2.1 then some (DTree.mk 0 [], 5) else bif decide ((400 : Int) ≤ r1.1) then some (DTree.mk 0 [], 8) else
 (tree_Copy F t).bind fun r2 => (addX F e (nlT r2) r2.root).bind fun z => match z with | (z1, z2) => (allN z2).bind fun l1 => some (DTree.mk z1 l1, 0) := rfl
theorem grow_Insert_good {t : DTree} {h : Nat} {e : DElem} (g : Good t h) (he : chkE e = 0) (hne : anyS e (elemsAt t.nodes h t.root) = false) (hl : (elemsAt t.nodes h t.root).length < 400) :
 ∃ t' h', grow_Insert F t e = some (t', 0) ∧ Good t' h' ∧ elemsAt t'.nodes h' t'.root = ins1 (elemsAt t.nodes h t.root) e := by
 obtain ⟨root, N, h1, h2, h', h3, h4⟩ := addX_good (F := F) g he (anyS_no hne) (by omega)
 refine ⟨⟨root, fN N⟩, h', ?_, h3, h4⟩
 rw [grow_Insert_eq, grow_look_good (chk_small g) g he, Option.bind_some]
 dsimp only
 rw [bne0_false rfl, cond_false, hne, cond_false, decide_eq_false (by omega), cond_false, tree_Copy_eq g.len g.chk, Option.bind_some, h1, Option.bind_some]
 dsimp only
 rw [h2, Option.bind_some]
end Go.Proofs.Ytcmkdoahkncakaa
namespace Go.Proofs.Ytcmkdoahkncakaa
set_option linter.unusedVariables false
set_option linter.unusedSimpArgs false
variable {F : Nat} [Big F]
theorem equalF {α : Type} [DecidableEq α] (test : α → α → Bool) (ht : ∀ x y, test x y = true ↔ x = y) (p q : List α) (hp : p.length ≤ 9223372036854775807) :
 (bif ((p.length : Int) != (q.length : Int)) then
  some false
 else
  (iter (σ := Int) (ρ := (Unit) ⊕ Bool) (fun x1 =>
   bif decide (x1 < (p.length : Int)) then
    (idx p x1).bind fun e1 =>
    (idx q x1).bind fun e2 =>
    bif (!(test e1 e2)) then
     some (.inr (.inr false))
    else
     some (.inl (IntKind.i64.wrap (x1 + 1)))
    else
     some (.inr (.inl ()))) F 0).bind fun z => match z with
  | .inl _ =>
   some true
  | .inr q => some q) = some (decide (p = q)) := by
 by_cases hl : p.length = q.length
 · rw [show ((p.length : Int) != (q.length : Int)) = false by rw [bne_eq_false_iff_eq]; omega, cond_false]
   obtain ⟨W, hW⟩ : ∃ W : Nat → α → Option (Unit ⊕ Bool), ∀ k e, W k e = if q[k]? = some e then none else some (Sum.inr false) := ⟨_, fun _ _ => rfl⟩
   rw [loop_find p W (Sum.inl ()) hp rfl (fun k e hk _ => ?_) (by simp)]
   · by_cases he : p = q
     · subst he
       rw [find_none.2 fun k e hk => by rw [hW, if_pos hk], decide_eq_true rfl]; rfl
     · rw [decide_eq_false he]
       cases hf : p.zipIdx.findSome? fun a => W a.2 a.1 with
       | some r =>
        obtain ⟨k, e, _, hr⟩ := find_some hf
        rw [hW] at hr
        split at hr
        · cases hr
        · obtain rfl := Option.some.inj hr; rfl
       | none =>
        exfalso
        apply he
        rw [find_none] at hf
        apply List.ext_getElem?
        intro k
        cases hk : p[k]? with
        | none => rw [List.getElem?_eq_none_iff] at hk; rw [List.getElem?_eq_none (by omega)]
        | some e =>
         have := hf k e hk
         rw [hW] at this
         split at this
         · rename_i h; exact h.symm
         · cases this
   · have hkl := (List.getElem?_eq_some_iff.1 hk).1
     have hq : q[k]? = some (q[k]'(by omega)) := List.getElem?_eq_getElem (by omega)
     rw [decide_eq_true (by omega), cond_true, idx_nat', idx_nat', hk, hq, Option.bind_some, Option.bind_some, w64 (by omega) (by omega), hW]
     by_cases he : q[k]'(by omega) = e
     · rw [if_pos (by rw [hq, he]), (ht _ _).2 he.symm]; rfl
     · have hf : test e (q[k]'(by omega)) = false := by
        cases hx : test e (q[k]'(by omega))
        · rfl
        · exact absurd ((ht _ _).1 hx).symm he
       rw [if_neg (by rw [hq]; simpa using he), hf]; rfl
 · rw [show ((p.length : Int) != (q.length : Int)) = true by rw [bne_iff_ne]; omega, cond_true, decide_eq_false (fun e => hl (by rw [e]))]
theorem eqElem (p q : List DElem) (hp : p.length ≤ 9223372036854775807) : slices_Equal_Elem F p q = some (decide (p = q)) := equalF (fun x y => x == y) (fun x y => by simp) p q hp
end Go.Proofs.Ytcmkdoahkncakaa
namespace Go.Proofs.Ytcmkdoahkncakaa
set_option linter.unusedVariables false
set_option linter.unusedSimpArgs false
variable {F : Nat} [Big F]
theorem within_nat {n m : Int} (hm : 0 < m) (hn : m ≤ 1000000) : ∃ r : Nat, annalkeep_Within n m = some (r : Int) ∧ (r : Int) < m := by
 unfold annalkeep_Within toDiv
 have e1 : IntKind.u64.wrap m = m := by simp [IntKind.wrap, IntKind.bits, IntKind.signed]; omega
 have e2 : 0 ≤ IntKind.u64.wrap n := by simp [IntKind.wrap, IntKind.bits, IntKind.signed]; omega
 rw [e1, if_neg (by omega), Option.bind_some]
 have h3 := Int.tmod_nonneg m e2
 have h4 := Int.tmod_lt_of_pos (IntKind.u64.wrap n) hm
 refine ⟨((IntKind.u64.wrap n).tmod m).toNat, ?_, by omega⟩
 rw [w64 (by omega) (by omega)]
 congr 1; omega
theorem build_ok {l : List DElem} (h : ¬ 400 < l.length) (hb : badR l = none) : ofR l = (buildT l, 0) := by
 unfold ofR; rw [if_neg h, hb]
theorem of_eq {l : List DElem} (hl : l.length ≤ 400) (ho : ∀ e ∈ l, chkE e = 0) (hp : l.Pairwise SpO) : annalkeep_of F l = some (buildT l) := by
 unfold annalkeep_of
 rw [build_Of_eq, Option.bind_some, build_ok (by omega) (badR_none.2 ⟨ho, hp⟩)]
theorem good_smalls {t : DTree} {h : Nat} (hg : Good t h) : ∀ n ∈ t.nodes, Small n := fun n hn => small_chk (hg.chk n hn)
theorem one_leaf {l : List DElem} (hl : l.length ≤ 8) (ho : ∀ e ∈ l, chkE e = 0) (hp : l.Pairwise SpO) : Good (buildT l) 0 ∧ elemsAt (buildT l).nodes 0 (buildT l).root = l ∧ (buildT l).nodes.length = 1 := by
 obtain ⟨h, hg, he, hn, h1, hm⟩ := buildT_spec (by omega) ho hp
 have h0 : h = 0 := by
  cases h with
  | zero => rfl
  | succ h => have := hm 0 (by omega); rw [cN, kOf_one hl] at this; omega
 subst h0
 exact ⟨hg, he, by rw [hn, sNk, cN, kOf_one hl]⟩
def at1E (off : Int) (v : ByteArray) : DElem := ⟨⟨0, 0, off⟩, 1, 0, v⟩
theorem at1_eq (off : Int) (v : ByteArray) : annalkeep_at1 off v = some (at1E off v) := rfl
theorem at1_ok {off : Int} {v : ByteArray} (h0 : 0 ≤ off) (h1 : off ≤ 1000) (hv : v.size ≤ 40) : chkE (at1E off v) = 0 := by
 unfold chkE at1E chkK
 dsimp only
 rw [if_neg (by rw [if_neg (by omega)]; simp), if_neg (by omega), if_neg (by omega)]
theorem one_ok {e : DElem} (h : chkE e = 0) : (∀ x ∈ [e], chkE x = 0) ∧ [e].Pairwise SpO := ⟨fun x hx => by rw [List.mem_singleton.1 hx]; exact h, List.pairwise_singleton _ _⟩
theorem equal_refl {l : List DElem} (h : l.length ≤ 9223372036854775807) : slices_Equal_Elem F l l = some true := by rw [eqElem l l h]; simp
theorem begun_eq : annalkeep_begun F = some true := by
 have hc : chkE (at1E 1 (ByteArray.mk #[97])) = 0 := at1_ok (by decide) (by decide) (by decide)
 obtain ⟨ho, hp⟩ := one_ok hc
 obtain ⟨hg, he, hn⟩ := one_leaf (l := [at1E 1 (ByteArray.mk #[97])]) (by simp) ho hp
 unfold annalkeep_begun
 rw [at1_eq, Option.bind_some, of_eq (by simp) ho hp, Option.bind_some, tree_All_good (good_smalls hg) hg, he, Option.bind_some]
 dsimp only
 rw [show ((0 : Int) == 0) = true from rfl, cond_true, Option.bind_some, equal_refl (by simp)]; rfl
end Go.Proofs.Ytcmkdoahkncakaa
namespace Go.Proofs.Ytcmkdoahkncakaa
set_option linter.unusedVariables false
set_option linter.unusedSimpArgs false
variable {F : Nat} [Big F]
theorem ins1_perm {l : List DElem} {e : DElem} (hp : l.Pairwise SpO) (ha : anyS e l = false) : (ins1 l e).Perm (e :: l) := by
 have h1 := spo_split (spotE e) hp
 have h2 : l.filter (fun x => spotE x == spotE e) = [] := by
  rw [List.filter_eq_nil_iff]
  intro x hx
  simpa using anyS_no ha x hx
 rw [h2, List.nil_append] at h1
 unfold ins1
 refine List.perm_middle.trans (List.Perm.cons _ ?_)
 exact List.Perm.of_eq h1.symm
theorem take_drop_perm {α : Type} {l : List α} {r : Nat} (h : r < l.length) : l.Perm (l[r] :: (l.take r ++ l.drop (r + 1))) := by
 conv => lhs; rw [← List.take_append_drop r l, List.drop_eq_getElem_cons h]
 exact List.perm_middle
theorem annalkeep_GrowMany_true (F : Nat) [Big F] (l : List DElem) (is : List Int) (ok : okAllW 56 okElem l) (oki : okAllW 8 (okInt .i64) is) : annalkeep_GrowMany F l is = some true := by
 unfold annalkeep_GrowMany
 rw [begun_eq, Option.bind_some]
 rw [show (!true) = false from rfl, cond_false]
 obtain ⟨c, hc, hc40, hcl⟩ : ∃ c : Nat, (if (40 : Int) < (l.length : Int) then 40 else (l.length : Int)) = (c : Int) ∧ c ≤ 40 ∧ c ≤ l.length := by
  by_cases h : (40 : Int) < (l.length : Int)
  · exact ⟨40, by rw [if_pos h]; rfl, by omega, by omega⟩
  · exact ⟨l.length, by rw [if_neg h], by omega, by omega⟩
 rw [hc, lslice_to hcl, Option.bind_some, run_Check_eq, Option.bind_some]
 have hlen : (l.take c).length ≤ 40 := by rw [List.length_take]; omega
 generalize l.take c = s at *
 by_cases hz : chkR s = 0
 rotate_left
 · rw [bne0_true hz, cond_true]
 have hrun := chkR_zero.1 hz
 have hsp := spots_of hrun.ord
 rw [bne0_false hz, cond_false, show (tree_New : Option DTree) = some newT from rfl, Option.bind_some, grow_ok (by simp; omega) (by simp; omega), Option.bind_some]
 refine loop_rec (m := s.length) (q := true) (fun m x q => q = true ∧ m = x.2.2.1.length ∧ 0 ≤ x.2.2.2 ∧ x.2.2.2 + (x.2.2.1.length : Int) ≤ 40 ∧ ∃ h, Good ⟨x.1, x.2.1⟩ h ∧ (elemsAt x.2.1 h x.1 ++ x.2.2.1).Perm s) ?_ (by omega) ⟨rfl, rfl, Int.le_refl _, by dsimp only; omega, 0, newT_good, List.Perm.refl _⟩
 rintro m ⟨x1, x2, x3, x4⟩ q ⟨rfl, rfl, h0, h40, h, g, hperm⟩
 dsimp only at h0 h40 g hperm ⊢
 have hl40 : (elemsAt x2 h x1).length + x3.length ≤ 40 := by
  have := hperm.length_eq
  rw [List.length_append] at this; omega
 by_cases hx : x3 = []
 · left
   subst hx
   rw [List.append_nil] at hperm
   have heq : elemsAt x2 h x1 = s := spo_ext (elems_ord g) hsp fun e => hperm.mem_iff
   refine ⟨.inl (x1, x2), ?_, ?_⟩
   · rw [decide_eq_false (by simp), cond_false]
   · dsimp only
     rw [tree_All_good (good_smalls g) g, Option.bind_some, tree_Depth_good (good_smalls g) g, Option.bind_some]
     dsimp only
     rw [heq, show ((0 : Int) == 0) = true from rfl, cond_true, cond_true, equal_refl (by omega), Option.bind_some, cond_true]
     have hroot : ∀ k, h = k + 1 → 2 * 4 ^ (k + 1) ≤ s.length := fun k hk => by
      subst hk
      rw [← heq]
      exact elems_root g.chk g.ok
     have hdeep : ¬ 31 < s.length → h ≤ 1 := fun hh => by
      match h, hroot with
      | 0, _ => omega
      | 1, _ => omega
      | k + 2, hroot =>
       have h1 : 2 * 4 ^ (k + 2) ≤ s.length := hroot (k + 1) rfl
       have h2 : 16 ≤ 4 ^ (k + 2) := Nat.pow_le_pow_right (n := 4) (i := 2) (by decide) (by omega)
       generalize 4 ^ (k + 2) = z at h1 h2
       omega
     have hflat : ¬ 7 < s.length → h = 0 := fun hh => by
      match h, hroot with
      | 0, _ => rfl
      | k + 1, hroot =>
       have h1 := hroot k rfl
       have h2 : 4 ^ 1 ≤ 4 ^ (k + 1) := Nat.pow_le_pow_right (by decide) (by omega)
       omega
     by_cases h7 : 7 < s.length
     · rw [decide_eq_true (by omega), cond_true]
       by_cases h31 : 31 < s.length
       · rw [decide_eq_true (by omega), cond_true]; rfl
       · have := hdeep h31
         rw [decide_eq_false (by omega), cond_false, decide_eq_true (by omega)]; rfl
     · have := hflat h7
       subst this
       rw [decide_eq_false (by omega), cond_false, show (((0 : Nat) : Int) + 1 == 1) = true from rfl, cond_true, decide_eq_false (by omega), cond_false]
       rfl
 · right
   have hpos : 0 < x3.length := List.length_pos_iff.2 hx
   obtain ⟨r, hr, hr3⟩ : ∃ r : Nat, r < x3.length ∧ (bif decide (x4 < (is.length : Int)) then (idx is x4).bind fun e1 => (annalkeep_Within e1 (x3.length : Int)).bind fun r5 => some r5 else some 0 : Option Int) = some (r : Int) := by
    by_cases hk : x4 < (is.length : Int)
    · obtain ⟨k, rfl⟩ : ∃ k : Nat, x4 = (k : Int) := ⟨x4.toNat, by omega⟩
      have hg : is[k]? = some (is[k]'(by omega)) := List.getElem?_eq_getElem (by omega)
      obtain ⟨r, h1, h2⟩ := within_nat (n := is[k]'(by omega)) (m := (x3.length : Int)) (by omega) (by omega)
      exact ⟨r, by omega, by rw [decide_eq_true hk, cond_true, idx_nat', hg, Option.bind_some, h1]; rfl⟩
    · exact ⟨0, hpos, by rw [decide_eq_false hk, cond_false]; rfl⟩
   have hg3 : x3[r]? = some x3[r] := List.getElem?_eq_getElem hr
   have hmem : x3[r] ∈ s := hperm.mem_iff.1 (List.mem_append_right _ (List.getElem_mem _))
   have hdist : (elemsAt x2 h x1 ++ x3).Pairwise fun a b => spotE a ≠ spotE b :=
    (hperm.pairwise_iff (fun {a b} hab hba => hab hba.symm)).2 (hsp.imp fun hab => hab.ne)
   have hany : anyS x3[r] (elemsAt x2 h x1) = false := by
    cases ha : anyS x3[r] (elemsAt x2 h x1) with
    | false => rfl
    | true =>
     obtain ⟨y, hy, hs⟩ := anyS_iff.1 ha
     exact absurd hs ((List.pairwise_append.1 hdist).2.2 y hy _ (List.getElem_mem _))
   obtain ⟨t, h', a1, a2, a3⟩ := grow_Insert_good (F := F) (t := ⟨x1, x2⟩) g (hrun.ok _ hmem) hany (by dsimp only; omega)
   refine ⟨(x3.take r ++ x3.drop (r + 1)).length, (t.root, t.nodes, x3.take r ++ x3.drop (r + 1), x4 + 1), ?_, ?_, rfl, rfl, ?_, ?_, h', a2, ?_⟩
   · rw [List.length_append, List.length_take, List.length_drop]; omega
   · have l3 : (x3.take r).length ≤ 40 := by rw [List.length_take]; omega
     have l4 : (x3.drop (r + 1)).length ≤ 40 := by rw [List.length_drop]; omega
     rw [decide_eq_true (by omega), cond_true, hr3, Option.bind_some, idx_nat', hg3, Option.bind_some, a1, Option.bind_some]
     dsimp only
     rw [bne0_false rfl, cond_false, lslice_to (by omega), Option.bind_some, w64 (n := (r : Int) + 1) (by omega) (by omega), show (r : Int) + 1 = ((r + 1 : Nat) : Int) by omega, lslice_from (by omega), Option.bind_some]
     generalize x3.take r = u at *
     generalize x3.drop (r + 1) = v at *
     have w1 : IntKind.i64.wrap (0 + (u.length : Int)) = (u.length : Int) := by rw [w64 (by omega) (by omega)]; omega
     have w2 : IntKind.i64.wrap ((u.length : Int) + (v.length : Int)) = (u.length : Int) + (v.length : Int) := w64 (by omega) (by omega)
     have w3 : IntKind.i64.wrap ((u.length : Int) + (v.length : Int) - 0) = ((u.length + v.length : Nat) : Int) := by rw [w64 (by omega) (by omega)]; omega
     rw [w1, w2, w3, decide_eq_false (by omega), cond_false, decide_eq_false (by omega), cond_false]
     have hz5 : (bif decide ((0 : Int) < ((u.length + v.length : Nat) : Int)) then (noughts 56 ((u.length + v.length : Nat) : Int)).bind fun u3 => (lslice (List.replicate (((u.length + v.length : Nat) : Int)).toNat ((DElem.mk (DKey.mk 0 0 0) 0 0 (ByteArray.mk #[])) : DElem)) 0 0).bind fun s5 => some s5 else some [] : Option (List DElem)) = some [] := by
      by_cases hp : (0 : Int) < ((u.length + v.length : Nat) : Int)
      · rw [decide_eq_true hp, cond_true, noughts_ok hp (by omega) (by omega), Option.bind_some, lslice_ok (by omega) (by omega) (by omega), Option.bind_some]; rfl
      · rw [decide_eq_false hp, cond_false]
     rw [hz5, Option.bind_some, Option.bind_some, grow_ok (by simp; omega) (by simp; omega), Option.bind_some, grow_ok (by simp; omega) (by simp; omega), Option.bind_some, Option.bind_some, w64 (by omega) (by omega)]
     rfl
   · dsimp only; omega
   · dsimp only
     rw [List.length_append, List.length_take, List.length_drop]; omega
   · dsimp only
     rw [a3]
     refine ((ins1_perm (elems_ord g) hany).append_right _).trans (List.Perm.trans ?_ hperm)
     rw [List.cons_append]
     refine List.perm_middle.symm.trans (List.Perm.append_left _ ?_)
     exact (take_drop_perm hr).symm
end Go.Proofs.Ytcmkdoahkncakaa
namespace Go.Proofs.Ytcmkdoahkncakaa
open Go.RowKit
theorem prog_own : ownKnob Try.prog.godebug = none := by kernel_rfl
theorem prog_laid : laidOutB Try.prog = true := by kernel_rfl
theorem op26 : Opens Try.prog 26 eKey okKey := opens_key Try.underlying26 (by kernel_rfl) rfl (by kernel_rfl) (opens_int Try.underlying3) rfl (by kernel_rfl) (opens_int Try.underlying3) rfl (by kernel_rfl) (opens_int Try.underlying3)
theorem op28 : Opens Try.prog 28 eElem okElem := opens_elem Try.underlying28 (by kernel_rfl) rfl (by kernel_rfl) op26 rfl (by kernel_rfl) (opens_int Try.underlying3) rfl (by kernel_rfl) (opens_int Try.underlying3) rfl (by kernel_rfl) (opens_str Try.underlying9)
theorem op34 : Opens Try.prog 34 (eList eElem) (okAllW 56 okElem) := opens_list Try.underlying34 (by kernel_rfl) (by kernel_rfl) op28
theorem op47 : Opens Try.prog 47 (eList eInt) (okAllW 8 (okInt .i64)) := opens_list Try.underlying47 (by kernel_rfl) (by kernel_rfl) (opens_int Try.underlying3)
set_option maxRecDepth 100000
def orderSigns : List Char := [.ofNat 104, .ofNat 97, .ofNat 114, .ofNat 110, .ofNat 101, .ofNat 115, .ofNat 115, .ofNat 32, .ofNat 99, .ofNat 101, .ofNat 99, .ofNat 102, .ofNat 54, .ofNat 48, .ofNat 102, .ofNat 51, .ofNat 55, .ofNat 50, .ofNat 101, .ofNat 51, .ofNat 100, .ofNat 49, .ofNat 52, .ofNat 50, .ofNat 50, .ofNat 55, .ofNat 56, .ofNat 55, .ofNat 56, .ofNat 48, .ofNat 54, .ofNat 102, .ofNat 57, .ofNat 56, .ofNat 52, .ofNat 57, .ofNat 100, .ofNat 99, .ofNat 53, .ofNat 97, .ofNat 51, .ofNat 52, .ofNat 52, .ofNat 55, .ofNat 100, .ofNat 55, .ofNat 51, .ofNat 53, .ofNat 56, .ofNat 54, .ofNat 102, .ofNat 102, .ofNat 51, .ofNat 49, .ofNat 50, .ofNat 100, .ofNat 57, .ofNat 100, .ofNat 102, .ofNat 55, .ofNat 50, .ofNat 99, .ofNat 53, .ofNat 101, .ofNat 54, .ofNat 50, .ofNat 55, .ofNat 100, .ofNat 54, .ofNat 55, .ofNat 55, .ofNat 101, .ofNat 32, .ofNat 99, .ofNat 117, .ofNat 116, .ofNat 32, .ofNat 97, .ofNat 116, .ofNat 32, .ofNat 97, .ofNat 110, .ofNat 110, .ofNat 97, .ofNat 108, .ofNat 105, .ofNat 115, .ofNat 116, .ofNat 47, .ofNat 97, .ofNat 110, .ofNat 110, .ofNat 97, .ofNat 108, .ofNat 107, .ofNat 101, .ofNat 101, .ofNat 112, .ofNat 46, .ofNat 71, .ofNat 114, .ofNat 111, .ofNat 119, .ofNat 83, .ofNat 101, .ofNat 116, .ofNat 115, .ofNat 32, .ofNat 97, .ofNat 110, .ofNat 110, .ofNat 97, .ofNat 108, .ofNat 105, .ofNat 115, .ofNat 116, .ofNat 47, .ofNat 97, .ofNat 110, .ofNat 110, .ofNat 97, .ofNat 108, .ofNat 107, .ofNat 101, .ofNat 101, .ofNat 112, .ofNat 46, .ofNat 83, .ofNat 104, .ofNat 114, .ofNat 105, .ofNat 110, .ofNat 107, .ofNat 83, .ofNat 111, .ofNat 109, .ofNat 101, .ofNat 32, .ofNat 97, .ofNat 110, .ofNat 110, .ofNat 97, .ofNat 108, .ofNat 105, .ofNat 115, .ofNat 116, .ofNat 47, .ofNat 97, .ofNat 110, .ofNat 110, .ofNat 97, .ofNat 108, .ofNat 107, .ofNat 101, .ofNat 101, .ofNat 112, .ofNat 46, .ofNat 83, .ofNat 104, .ofNat 114, .ofNat 105, .ofNat 110, .ofNat 107, .ofNat 65, .ofNat 108, .ofNat 108, .ofNat 32, .ofNat 97, .ofNat 110, .ofNat 110, .ofNat 97, .ofNat 108, .ofNat 105, .ofNat 115, .ofNat 116, .ofNat 47, .ofNat 97, .ofNat 110, .ofNat 110, .ofNat 97, .ofNat 108, .ofNat 107, .ofNat 101, .ofNat 101, .ofNat 112, .ofNat 46, .ofNat 80, .ofNat 114, .ofNat 117, .ofNat 110, .ofNat 101, .ofNat 83, .ofNat 116, .ofNat 101, .ofNat 112, .ofNat 115, .ofNat 32, .ofNat 97, .ofNat 110, .ofNat 110, .ofNat 97, .ofNat 108, .ofNat 105, .ofNat 115, .ofNat 116, .ofNat 47, .ofNat 97, .ofNat 110, .ofNat 110, .ofNat 97, .ofNat 108, .ofNat 107, .ofNat 101, .ofNat 101, .ofNat 112, .ofNat 46, .ofNat 71, .ofNat 114, .ofNat 111, .ofNat 119, .ofNat 79, .ofNat 114, .ofNat 100, .ofNat 101, .ofNat 114, .ofNat 115, .ofNat 32, .ofNat 97, .ofNat 110, .ofNat 110, .ofNat 97, .ofNat 108, .ofNat 105, .ofNat 115, .ofNat 116, .ofNat 47, .ofNat 97, .ofNat 110, .ofNat 110, .ofNat 97, .ofNat 108, .ofNat 107, .ofNat 101, .ofNat 101, .ofNat 112, .ofNat 46, .ofNat 84, .ofNat 114, .ofNat 101, .ofNat 101, .ofNat 69, .ofNat 109, .ofNat 112, .ofNat 116, .ofNat 121, .ofNat 32, .ofNat 97, .ofNat 110, .ofNat 110, .ofNat 97, .ofNat 108, .ofNat 105, .ofNat 115, .ofNat 116, .ofNat 47, .ofNat 97, .ofNat 110, .ofNat 110, .ofNat 97, .ofNat 108, .ofNat 107, .ofNat 101, .ofNat 101, .ofNat 112, .ofNat 46, .ofNat 71, .ofNat 114, .ofNat 111, .ofNat 119, .ofNat 77, .ofNat 97, .ofNat 110, .ofNat 121, .ofNat 32, .ofNat 97, .ofNat 110, .ofNat 110, .ofNat 97, .ofNat 108, .ofNat 105, .ofNat 115, .ofNat 116, .ofNat 47, .ofNat 97, .ofNat 110, .ofNat 110, .ofNat 97, .ofNat 108, .ofNat 107, .ofNat 101, .ofNat 101, .ofNat 112, .ofNat 46, .ofNat 84, .ofNat 114, .ofNat 101, .ofNat 101, .ofNat 70, .ofNat 117, .ofNat 108, .ofNat 108, .ofNat 32, .ofNat 97, .ofNat 110, .ofNat 110, .ofNat 97, .ofNat 108, .ofNat 105, .ofNat 115, .ofNat 116, .ofNat 47, .ofNat 97, .ofNat 110, .ofNat 110, .ofNat 97, .ofNat 108, .ofNat 107, .ofNat 101, .ofNat 101, .ofNat 112, .ofNat 46, .ofNat 71, .ofNat 114, .ofNat 111, .ofNat 119, .ofNat 83, .ofNat 104, .ofNat 114, .ofNat 105, .ofNat 110, .ofNat 107, .ofNat 115, .ofNat 32, .ofNat 97, .ofNat 110, .ofNat 110, .ofNat 97, .ofNat 108, .ofNat 105, .ofNat 115, .ofNat 116, .ofNat 47, .ofNat 97, .ofNat 110, .ofNat 110, .ofNat 97, .ofNat 108, .ofNat 107, .ofNat 101, .ofNat 101, .ofNat 112, .ofNat 46, .ofNat 87, .ofNat 114, .ofNat 105, .ofNat 116, .ofNat 101, .ofNat 80, .ofNat 97, .ofNat 115, .ofNat 116, .ofNat 32, .ofNat 97, .ofNat 110, .ofNat 110, .ofNat 97, .ofNat 108, .ofNat 105, .ofNat 115, .ofNat 116, .ofNat 47, .ofNat 97, .ofNat 110, .ofNat 110, .ofNat 97, .ofNat 108, .ofNat 107, .ofNat 101, .ofNat 101, .ofNat 112, .ofNat 46, .ofNat 87, .ofNat 114, .ofNat 105, .ofNat 116, .ofNat 101, .ofNat 83, .ofNat 97, .ofNat 109, .ofNat 101]
theorem order_text : Try.prog.initOrder = "harness cecf60f372e3d1422787806f9849dc5a3447d73586ff312d9df72c5e627d677e cut at annalist/annalkeep.GrowSets annalist/annalkeep.ShrinkSome annalist/annalkeep.ShrinkAll annalist/annalkeep.PruneSteps annalist/annalkeep.GrowOrders annalist/annalkeep.TreeEmpty annalist/annalkeep.GrowMany annalist/annalkeep.TreeFull annalist/annalkeep.GrowShrinks annalist/annalkeep.WritePast annalist/annalkeep.WriteSame" := by kernel_rfl
theorem order_signs : ("harness cecf60f372e3d1422787806f9849dc5a3447d73586ff312d9df72c5e627d677e cut at annalist/annalkeep.GrowSets annalist/annalkeep.ShrinkSome annalist/annalkeep.ShrinkAll annalist/annalkeep.PruneSteps annalist/annalkeep.GrowOrders annalist/annalkeep.TreeEmpty annalist/annalkeep.GrowMany annalist/annalkeep.TreeFull annalist/annalkeep.GrowShrinks annalist/annalkeep.WritePast annalist/annalkeep.WriteSame" : String) = String.ofList orderSigns := by kernel_rfl
theorem prog_order : Try.prog.initOrder.toList = orderSigns := by rw [order_text, order_signs]; exact String.toList_ofList
theorem make_of (P : Program) (h : P.initOrder.toList = orderSigns) : P.make = some .cut := by
 unfold Program.make Program.headLifts
 rw [h]
 kernel_rfl
theorem lifts_of (P : Program) (h : P.initOrder.toList = orderSigns) : P.liftsFinal = false := by
 unfold Program.liftsFinal Program.headLifts
 rw [h]
 kernel_rfl
theorem enter_of (P : Program) (h : P.initOrder.toList = orderSigns) (h1 : P.laysLater = false) (h2 : P.bearsReflect = false) (h3 : P.doorFits [] = true) : P.mayEnter = true := by
 unfold Program.mayEnter
 rw [h, h1, h2]
 have e : (stripLifts liftWords (behindMainWord (wordsSigns orderSigns))).1 = [] := by kernel_rfl
 have e0 : behindMainWord (wordsSigns orderSigns) = "cut".toList :: (behindMainWord (wordsSigns orderSigns)).tail := by kernel_rfl
 rw [e0] at e ⊢
 dsimp only
 rw [e, h3]
 clear h h1 h2 h3
 change _ = true
 kernel_rfl
theorem prog_make : Try.prog.make = some .cut := make_of _ prog_order
theorem prog_lifts : Try.prog.liftsFinal = false := lifts_of _ prog_order
theorem prog_enter : Try.prog.mayEnter = true := enter_of _ prog_order (by kernel_rfl) (by kernel_rfl) (by kernel_rfl)
end Go.Proofs.Ytcmkdoahkncakaa
