/- Plain Lean: what the functions on changes compute. Its conditions: none. -/
import Derived.Test.YtiaoncjkfgebdaaChangeF
import Derived.Test.YtiaoncjkfgebdaaMChange
import Derived.Test.YtiaoncjkfgebdaaPRun
namespace Go.Proofs.Ytiaoncjkfgebdaa
set_option linter.unusedVariables false
set_option linter.unusedSimpArgs false
variable {F : Nat} [Big F]
theorem seq_dec (x y : ByteArray) : seq x y = decide (x = y) := by rw [Bool.eq_iff_iff, seq_iff, decide_eq_true_eq]
theorem change_differs_eq (c : DChange) : change_differs c = some (differs c) := by
  unfold change_differs differs
  rw [seq_dec]

/-! ### Check -/
def badF (c : DChange) : Bool := (bif (!c.had) then ((!(seq c.was (ByteArray.mk #[]))) || (bif (!c.has) then ((!(seq c.is_ (ByteArray.mk #[]))) || ((c.had == c.has) && (seq c.was c.is_))) else ((c.had == c.has) && (seq c.was c.is_)))) else (bif (!c.has) then ((!(seq c.is_ (ByteArray.mk #[]))) || ((c.had == c.has) && (seq c.was c.is_))) else ((c.had == c.has) && (seq c.was c.is_))))
theorem badF_iff {c : DChange} : badF c = false ↔ FormC c ∧ differs c = true := by
  obtain ⟨k, had, has, was, is_⟩ := c
  unfold badF FormC differs
  dsimp only
  simp only [seq_dec]
  by_cases h1 : was = ByteArray.mk #[] <;> by_cases h2 : is_ = ByteArray.mk #[] <;> by_cases h3 : was = is_ <;> cases had <;> cases has <;> simp [h1, h2, h3, e0]
def badC (l : List DChange) (k : Nat) (c : DChange) : Option Int :=
  if chkK c.key ≠ 0 then some (chkK c.key) else if 40 < c.was.size ∨ 40 < c.is_.size then some 2 else if badF c = true then some 3 else if k = 0 then none else
    match l[k - 1]? with
    | some p => if cmpK p.key c.key < 0 then none else some 3
    | none => none
def chkC (l : List DChange) : Int := if 400 < l.length then 2 else ((l.zipIdx).findSome? fun p => badC l p.2 p.1).getD 0
theorem change_Check_eq (l : List DChange) : change_Check F l = some (chkC l) := by
  unfold change_Check chkC
  by_cases hl : 400 < l.length
  · rw [if_pos hl, decide_eq_true (by omega), cond_true]
  · rw [if_neg hl, decide_eq_false (by omega), cond_false]
    rw [loop_find l (fun k e => (badC l k e).map Sum.inr) (Sum.inl ()) (by omega) rfl (fun k e hk hb => ?_) (by simp)]
    · rw [findSome_map]
      cases l.zipIdx.findSome? fun p => badC l p.2 p.1 <;> rfl
    · have hkl := (List.getElem?_eq_some_iff.1 hk).1
      rw [decide_eq_true (by omega), cond_true, idx_nat', hk, Option.bind_some, key_Check_eq, Option.bind_some]
      unfold badC
      by_cases hc : chkK e.key = 0
      · rw [bne0_false hc, cond_false, if_neg (by simpa using hc)]
        by_cases hs : 40 < e.was.size ∨ 40 < e.is_.size
        · rw [if_pos hs, show (decide ((40 : Int) < (e.was.size : Int)) || decide ((40 : Int) < (e.is_.size : Int))) = true by rw [Bool.or_eq_true, decide_eq_true_eq, decide_eq_true_eq]; omega, cond_true]; rfl
        · rw [if_neg hs, show (decide ((40 : Int) < (e.was.size : Int)) || decide ((40 : Int) < (e.is_.size : Int))) = false by rw [Bool.or_eq_false_iff, decide_eq_false_iff_not, decide_eq_false_iff_not]; omega, cond_false]
          show (bif badF e then some (Sum.inr (Sum.inr 3)) else _) = _
          by_cases hf : badF e = true
          · rw [if_pos hf, hf, cond_true]; rfl
          · rw [if_neg hf, show badF e = false by simpa using hf, cond_false]
            cases k with
            | zero => simp [w64]
            | succ j =>
              obtain ⟨p, hj⟩ : ∃ p, l[j]? = some p := ⟨_, List.getElem?_eq_getElem (show j < l.length by omega)⟩
              rw [decide_eq_true (by omega), cond_true, w64 (by omega) (by omega), show (((j + 1 : Nat) : Int) - 1) = (j : Int) by omega, idx_nat', hj, Option.bind_some, key_Cmp_eq, Option.bind_some, Option.bind_some, if_neg (by omega), Nat.add_sub_cancel, hj, w64 (by omega) (by omega)]
              dsimp only
              by_cases h1 : cmpK p.key e.key < 0
              · rw [decide_eq_false (by omega), if_pos h1]; rfl
              · rw [decide_eq_true (by omega), if_neg h1]; rfl
      · rw [bne0_true hc, cond_true, if_pos hc]; rfl
theorem chkC_zero {l : List DChange} : chkC l = 0 ↔ GoodC l := by
  unfold chkC
  by_cases hl : 400 < l.length
  · rw [if_pos hl]
    constructor
    · intro h; cases h
    · intro h; have := h.len; omega
  · rw [if_neg hl]
    have none_iff : ∀ (k : Nat) c, l[k]? = some c → (badC l k c = none ↔ chkK c.key = 0 ∧ (c.was.size ≤ 40 ∧ c.is_.size ≤ 40) ∧ badF c = false ∧ ∀ p, 0 < k → l[k - 1]? = some p → cmpK p.key c.key < 0) := fun k c hk => by
      have hkl := (List.getElem?_eq_some_iff.1 hk).1
      unfold badC
      by_cases h1 : chkK c.key = 0
      · rw [if_neg (by simpa using h1)]
        by_cases h2 : 40 < c.was.size ∨ 40 < c.is_.size
        · rw [if_pos h2]
          constructor
          · intro h; cases h
          · intro h; omega
        · rw [if_neg h2]
          by_cases h3 : badF c = true
          · rw [if_pos h3, h3]; simp
          · rw [if_neg h3]
            by_cases h4 : k = 0
            · rw [if_pos h4]
              refine ⟨fun _ => ⟨h1, by omega, by simpa using h3, fun p hp => by omega⟩, fun _ => rfl⟩
            · rw [if_neg h4]
              have hp : l[k - 1]? = some (l[k - 1]'(by omega)) := List.getElem?_eq_getElem (by omega)
              rw [hp]
              dsimp only
              split
              · rename_i h5
                refine ⟨fun _ => ⟨h1, by omega, by simpa using h3, fun p _ hp' => ?_⟩, fun _ => rfl⟩
                obtain rfl := Option.some.inj hp'; exact h5
              · rename_i h5
                constructor
                · intro h; cases h
                · intro h; exact absurd (h.2.2.2 _ (by omega) rfl) h5
      · rw [if_pos h1]
        constructor
        · intro h; cases h
        · intro h; exact absurd h.1 h1
    cases hf : l.zipIdx.findSome? fun p => badC l p.2 p.1 with
    | some c =>
      obtain ⟨k, e, hk, hb⟩ := find_some hf
      rw [Option.getD_some]
      constructor
      · intro hc
        subst hc
        unfold badC at hb
        split at hb
        · rename_i h; exact absurd (Option.some.inj hb) h
        · split at hb
          · cases hb
          · split at hb
            · cases hb
            · split at hb
              · cases hb
              · split at hb
                · split at hb <;> cases hb
                · cases hb
      · intro h
        have hkl := (List.getElem?_eq_some_iff.1 hk).1
        have hm := List.mem_of_getElem? hk
        have := (none_iff k e hk).2 ⟨h.key e hm, h.val e hm, badF_iff.2 ⟨h.form e hm, h.dif e hm⟩, fun p h0 hp => by
          have hp2 := (List.getElem?_eq_some_iff.1 hp)
          have := List.pairwise_iff_getElem.1 h.ord (k - 1) k (by omega) hkl (by omega)
          rw [hp2.2, (List.getElem?_eq_some_iff.1 hk).2] at this
          exact this⟩
        rw [this] at hb
        cases hb
    | none =>
      rw [find_none] at hf
      refine ⟨fun _ => ?_, fun _ => rfl⟩
      have all : ∀ c ∈ l, chkK c.key = 0 ∧ (c.was.size ≤ 40 ∧ c.is_.size ≤ 40) ∧ badF c = false := fun c hc => by
        obtain ⟨k, hk, rfl⟩ := List.getElem_of_mem hc
        have := (none_iff k _ (List.getElem?_eq_getElem hk)).1 (hf k _ (List.getElem?_eq_getElem hk))
        exact ⟨this.1, this.2.1, this.2.2.1⟩
      refine ⟨by omega, fun c hc => (all c hc).1, fun c hc => (all c hc).2.1, fun c hc => (badF_iff.1 (all c hc).2.2).1, fun c hc => (badF_iff.1 (all c hc).2.2).2, ?_⟩
      rw [List.pairwise_iff_getElem]
      have far : ∀ d i (hd : i + d + 1 < l.length), KeyLt (l[i]'(by omega)) l[i + d + 1] := by
        intro d
        induction d with
        | zero =>
          intro i hd
          exact ((none_iff (i + 1) _ (List.getElem?_eq_getElem hd)).1 (hf (i + 1) _ (List.getElem?_eq_getElem hd))).2.2.2 _ (by omega) (List.getElem?_eq_getElem (show i < l.length by omega))
        | succ d ih =>
          intro i hd
          have h1 := ih i (by omega)
          have h2 := ((none_iff (i + d + 2) _ (List.getElem?_eq_getElem hd)).1 (hf (i + d + 2) _ (List.getElem?_eq_getElem hd))).2.2.2 _ (by omega) (List.getElem?_eq_getElem (show i + d + 1 < l.length by omega))
          exact KeyLt.trans h1 h2
      intro i j hi hj hij
      have := far (j - i - 1) i (by omega)
      have e : i + (j - i - 1) + 1 = j := by omega
      simp only [e] at this
      exact this

/-! ### Between -/
theorem between_goal {ρ : Type} {f : List DChange × Int → Option ((List DChange × Int) ⊕ List DChange)} {k : List DChange → Option ρ} {P : Option ρ → Prop} {l : List DElem} {a b : Int} (hr : Run l)
    (hend : ∀ acc, f (acc, (l.length : Int)) = some (.inr acc))
    (hstep : ∀ acc (i : Nat) e G R, l.drop i = e :: (G ++ R) → (∀ x ∈ G, x.key = e.key) → (∀ x ∈ R.head?, x.key ≠ e.key) → acc.length ≤ i →
      f (acc, (i : Int)) = some (.inl (acc ++ (dif e.key (lastV a (e :: G) none) (lastV b (e :: G) none)).toList, ((i + 1 + G.length : Nat) : Int))))
    (hk : ∀ cs, BetwSpec l a b cs → P (k cs)) : P ((iter f F ([], 0)).bind k) := by
  have hlen := hr.len
  obtain ⟨cs, h1, h2, h3, h4, h5⟩ := between_loop hr.ord hend hstep l.length F [] 0 (by omega) (lt_big (by omega)) (by omega) (by simp) (by simp)
  rw [show iter f F ([], 0) = some ([] ++ cs) from h1, Option.bind_some, List.nil_append]
  refine hk cs ⟨h2, fun k => ?_, by omega⟩
  rw [List.drop_zero] at h3 h4
  by_cases hk : ∃ y ∈ l, y.key = k
  · obtain ⟨y, hy, rfl⟩ := hk
    exact h4 y hy
  · have e1 : ∀ t, vAt l k t = none := fun t => by
      cases hv : vAt l k t with
      | none => rfl
      | some v => obtain ⟨e, he, hk', _⟩ := vAt_some hr.ord hv; exact absurd ⟨e, he, hk'⟩ hk
    rw [e1, e1]
    unfold dif
    rw [if_pos rfl, chAt_none]
    intro c hc e
    obtain ⟨y, hy, hk'⟩ := h3 c hc
    exact hk ⟨y, hy, hk'.trans e⟩
theorem change_Between_eq (l : List DElem) (a b : Int) : (chkR l ≠ 0 ∧ change_Between F l a b = some ([], chkR l)) ∨ (chkR l = 0 ∧ ∃ cs, BetwSpec l a b cs ∧ change_Between F l a b = some (cs, 0)) := by
  unfold change_Between
  rw [run_Check_eq, Option.bind_some]
  by_cases h : chkR l = 0
  · right
    refine ⟨h, ?_⟩
    have hr := chkR_zero.1 h
    have hlen := hr.len
    rw [bne0_false h, cond_false]
    refine between_goal (P := fun o => ∃ cs, BetwSpec l a b cs ∧ o = some (cs, 0)) (l := l) (a := a) (b := b) hr (fun acc => by simp) (fun acc i e G R hd hG hR hacc => ?_) (fun cs hcs => ⟨cs, hcs, rfl⟩)
    have hdl := congrArg List.length hd
    simp only [List.length_drop, List.length_cons, List.length_append] at hdl
    have hat : ∀ j, l[i + j]? = ((e :: G) ++ R)[j]? := fun j => by rw [← List.getElem?_drop, hd]; rfl
    have h0 : l[i]? = some e := hat 0
    dsimp only
    rw [decide_eq_true (by omega), cond_true, idx_nat', h0, Option.bind_some]
    rw [loop_run (fun j => ((lastV a ((e :: G).take j) none).isSome, (lastV b ((e :: G).take j) none).isSome, (lastV a ((e :: G).take j) none).getD e0, (lastV b ((e :: G).take j) none).getD e0, ((i + j : Nat) : Int))) (e :: G).length
      (r := ((lastV a (e :: G) none).isSome, (lastV b (e :: G) none).isSome, (lastV a (e :: G) none).getD e0, (lastV b (e :: G) none).getD e0, ((i + (e :: G).length : Nat) : Int))) (show ((false, false, ByteArray.mk #[], ByteArray.mk #[], (i : Int)) : Bool × Bool × ByteArray × ByteArray × Int) = _ from rfl) (by simp; omega) (fun j hj => ?_) ?_]
    · rw [Option.bind_some]
      dsimp only
      show (change_differs (chgOf e.key (lastV a (e :: G) none) (lastV b (e :: G) none))).bind _ = _
      rw [change_differs_eq, Option.bind_some, differs_of]
      have hn : (((i + (e :: G).length : Nat) : Int)) = ((i + 1 + G.length : Nat) : Int) := by rw [List.length_cons]; omega
      by_cases hd : lastV a (e :: G) none = lastV b (e :: G) none
      · rw [decide_eq_true hd, hn]
        unfold dif
        rw [if_pos hd]
        simp
      · rw [decide_eq_false hd, Bool.not_false, cond_true, grow_ok (by simp; omega) (by simp; omega), Option.bind_some, hn]
        unfold dif
        rw [if_neg hd]; rfl
    · rw [List.take_length]
      dsimp only
      have hz : ((bif decide (((i + (e :: G).length : Nat) : Int) < (l.length : Int)) then (idx l ((i + (e :: G).length : Nat) : Int)).bind fun e2 => some (e2.key == e.key) else some false : Option Bool)) = some false := by
        have hx : l[i + (e :: G).length]? = R[0]? := by rw [hat, List.getElem?_append_right (Nat.le_refl _), Nat.sub_self]
        by_cases hlt : i + (e :: G).length < l.length
        · rw [decide_eq_true (by omega), cond_true, idx_nat', hx]
          cases R with
          | nil => simp at hdl hlt; omega
          | cons r R =>
            have := hR r (by simp)
            show (some r).bind _ = _
            rw [Option.bind_some, beq_eq_false_iff_ne.2 this]
        · rw [decide_eq_false (by omega), cond_false]
      rw [hz]; rfl
    · have hx : ((e :: G) ++ R)[j]? = some ((e :: G)[j]) := by rw [List.getElem?_append_left hj, List.getElem?_eq_getElem hj]
      have hkey : ((e :: G)[j]).key = e.key := by
        rcases List.mem_cons.1 (List.getElem_mem hj) with h1 | h1
        · rw [h1]
        · exact hG _ h1
      have hidx : idx l ((i + j : Nat) : Int) = some ((e :: G)[j]) := by rw [idx_nat', hat, hx]
      have hj' : j < 1 + G.length := by simp at hj; omega
      have hlast : ∀ t, lastV t ((e :: G).take (j + 1)) none = if live ((e :: G)[j]) t then some ((e :: G)[j]).val else lastV t ((e :: G).take j) none := fun t => by
        unfold lastV
        rw [List.take_add_one, List.getElem?_eq_getElem hj, Option.toList_some, List.foldl_append]; rfl
      rw [hlast, hlast]
      generalize (e :: G)[j] = x at hidx hkey
      dsimp only
      rw [decide_eq_true (by omega), cond_true, hidx]
      simp only [Option.bind_some, elem_Live_eq, beq_iff_eq.2 hkey, cond_true, w64 (n := ((i + j : Nat) : Int) + 1) (by omega) (by omega)]
      have e1 : (((i + j : Nat) : Int) + 1) = ((i + (j + 1) : Nat) : Int) := by omega
      rw [e1]
      cases live x a <;> cases live x b <;> rfl
  · left
    rw [bne0_true h, cond_true]
    exact ⟨h, rfl⟩

/-! ### Back -/
theorem change_Back_eq (l : List DChange) : change_Back F l = some (if chkC l = 0 then backC l else [], chkC l) := by
  unfold change_Back
  rw [change_Check_eq, Option.bind_some]
  by_cases h : chkC l = 0
  · have hlen := (chkC_zero.1 h).len
    rw [bne0_false h, cond_false, if_pos h]
    rw [loop_fold l (fun acc c => acc ++ [inv c]) [] (r := backC l) (by omega) rfl (fun k e hk => ?_) (by rw [foldl_snoc, List.nil_append]; simp [backC]), Option.bind_some, h]
    have hkl := (List.getElem?_eq_some_iff.1 hk).1
    have hfl : ((l.take k).foldl (fun acc c => acc ++ [inv c]) []).length ≤ 400 := by rw [foldl_snoc]; simp; omega
    generalize (l.take k).foldl (fun acc c => acc ++ [inv c]) [] = acc at hfl
    dsimp only
    rw [decide_eq_true (by omega), cond_true, idx_nat', hk, Option.bind_some, grow_ok (by simp; omega) (by simp; omega), Option.bind_some, w64 (by omega) (by omega)]; rfl
  · rw [bne0_true h, cond_true, if_neg h]

/-! ### Then -/
theorem then_goal {ρ : Type} {f : List DChange × List DChange × List DChange → Option ((List DChange × List DChange × List DChange) ⊕ (List DChange ⊕ (List DChange × Int)))} {k : List DChange ⊕ (List DChange × Int) → Option ρ} {P : Option ρ → Prop} {a b : List DChange} (ga : GoodC a) (gb : GoodC b)
    (hend : ∀ acc, f (acc, [], []) = some (.inr (.inl acc)))
    (hA : ∀ acc x a b, acc.length + (x :: a).length + b.length ≤ 800 → (∀ y ∈ b.head?, cmpK x.key y.key < 0) → f (acc, x :: a, b) = some (.inl (acc ++ [x], a, b)))
    (hB : ∀ acc a y b, acc.length + a.length + (y :: b).length ≤ 800 → (∀ x ∈ a.head?, 0 < cmpK x.key y.key) → f (acc, a, y :: b) = some (.inl (acc ++ [y], a, b)))
    (hE : ∀ acc x a y b, acc.length + (x :: a).length + (y :: b).length ≤ 800 → x.key = y.key → FormC x → FormC y → f (acc, x :: a, y :: b) = if to x = fr y then some (.inl (acc ++ (dif x.key (fr x) (to y)).toList, a, b)) else some (.inr (.inr ([], 1))))
    (hbad : (∃ k, ¬ meets (chAt a k) (chAt b k)) → P (k (.inr ([], 1)))) (hk : ∀ r, ThenSpec a b r → P (k (.inl r))) : P ((iter f F ([], a, b)).bind k) := by
  have h1 := ga.len
  have h2 := gb.len
  rcases then_loop (M := 800) hend hA hB hE (a.length + b.length) F [] a b (Nat.le_refl _) (lt_big (by omega)) (by simp; omega) ga.ord gb.ord ga.form gb.form with ⟨g1, g2⟩ | ⟨r, g1, g2, _, _⟩
  · rw [g1, Option.bind_some]; exact hbad g2
  · rw [g1, Option.bind_some, List.nil_append]; exact hk r g2
theorem change_Then_eq (a b : List DChange) :
    (¬ (GoodC a ∧ GoodC b) ∧ ∃ c, c ≠ 0 ∧ change_Then F a b = some ([], c)) ∨
    (GoodC a ∧ GoodC b ∧ (((∃ k, ¬ meets (chAt a k) (chAt b k)) ∧ change_Then F a b = some ([], 1)) ∨ ∃ r, ThenSpec a b r ∧ change_Then F a b = some (if 400 < r.length then ([], 2) else (r, 0)))) := by
  unfold change_Then
  rw [change_Check_eq, Option.bind_some, change_Check_eq, Option.bind_some]
  by_cases h1 : chkC a = 0
  · rw [bne0_false h1, cond_false]
    by_cases h2 : chkC b = 0
    · rw [bne0_false h2, cond_false]
      have ga := chkC_zero.1 h1
      have gb := chkC_zero.1 h2
      right
      refine ⟨ga, gb, ?_⟩
      refine then_goal (P := fun o => ((∃ k, ¬ meets (chAt a k) (chAt b k)) ∧ o = some ([], 1)) ∨ ∃ r, ThenSpec a b r ∧ o = some (if 400 < r.length then ([], 2) else (r, 0))) ga gb (fun acc => ?_) (fun acc x a b hM hlt => ?_) (fun acc a y b hM hlt => ?_) (fun acc x a y b hM hk fx fy => ?_) (fun hb => .inl ⟨hb, rfl⟩) (fun r hr => .inr ⟨r, hr, ?_⟩)
      · simp [w64]
      · simp only [List.length_cons] at hM
        dsimp only
        rw [w64 (by simp; omega) (by simp; omega), decide_eq_true (by simp; omega), cond_true]
        have hz : ((bif (((x :: a).length : Int) == 0) then some 1 else bif ((b.length : Int) == 0) then some (-1) else (idx (x :: a) 0).bind fun e1 => (idx b 0).bind fun e2 => (key_Cmp e1.key e2.key).bind fun r4 => some r4 : Option Int)) = some (-1) := by
          rw [show (((x :: a).length : Int) == 0) = false by rw [beq_eq_false_iff_ne]; simp; omega, cond_false]
          cases b with
          | nil => rfl
          | cons y b =>
            rw [show (((y :: b).length : Int) == 0) = false by rw [beq_eq_false_iff_ne]; simp; omega, cond_false]
            show (some x).bind _ = _
            rw [Option.bind_some]
            show (some y).bind _ = _
            rw [Option.bind_some, key_Cmp_eq, Option.bind_some]
            have := hlt y (by simp)
            have h3 := cmp_cmpK.one x.key y.key
            congr 1; omega
        rw [hz, Option.bind_some, decide_eq_true (by decide), cond_true]
        show (some x).bind _ = _
        rw [Option.bind_some, grow_ok (by simp; omega) (by simp; omega), Option.bind_some, show ((1 : Int)) = ((1 : Nat) : Int) from rfl, lslice_from (by simp), Option.bind_some]; rfl
      · simp only [List.length_cons] at hM
        dsimp only
        rw [w64 (by simp; omega) (by simp; omega), decide_eq_true (by simp; omega), cond_true]
        have hz : ((bif ((a.length : Int) == 0) then some 1 else bif (((y :: b).length : Int) == 0) then some (-1) else (idx a 0).bind fun e1 => (idx (y :: b) 0).bind fun e2 => (key_Cmp e1.key e2.key).bind fun r4 => some r4 : Option Int)) = some 1 := by
          cases a with
          | nil => rfl
          | cons x a =>
            rw [show (((x :: a).length : Int) == 0) = false by rw [beq_eq_false_iff_ne]; simp; omega, cond_false, show (((y :: b).length : Int) == 0) = false by rw [beq_eq_false_iff_ne]; simp; omega, cond_false]
            show (some x).bind _ = _
            rw [Option.bind_some]
            show (some y).bind _ = _
            rw [Option.bind_some, key_Cmp_eq, Option.bind_some]
            have := hlt x (by simp)
            have h3 := cmp_cmpK.one x.key y.key
            congr 1; omega
        rw [hz, Option.bind_some, decide_eq_false (by decide), cond_false, decide_eq_true (by decide), cond_true]
        show (some y).bind _ = _
        rw [Option.bind_some, grow_ok (by simp; omega) (by simp; omega), Option.bind_some, show ((1 : Int)) = ((1 : Nat) : Int) from rfl, lslice_from (by simp), Option.bind_some]; rfl
      · simp only [List.length_cons] at hM
        dsimp only
        rw [w64 (by simp; omega) (by simp; omega), decide_eq_true (by simp; omega), cond_true]
        have i1 : idx (x :: a) 0 = some x := rfl
        have i2 : idx (y :: b) 0 = some y := rfl
        have s1 : lslice (x :: a) 1 ((x :: a).length : Int) = some a := by rw [show ((1 : Int)) = ((1 : Nat) : Int) from rfl, lslice_from (by simp)]; rfl
        have s2 : lslice (y :: b) 1 ((y :: b).length : Int) = some b := by rw [show ((1 : Int)) = ((1 : Nat) : Int) from rfl, lslice_from (by simp)]; rfl
        have z1 : (((x :: a).length : Int) == 0) = false := by rw [beq_eq_false_iff_ne]; simp; omega
        have z2 : (((y :: b).length : Int) == 0) = false := by rw [beq_eq_false_iff_ne]; simp; omega
        have hc : key_Cmp x.key y.key = some 0 := by rw [key_Cmp_eq, hk, cmp_cmpK.refl]
        simp only [i1, i2, s1, s2, z1, z2, cond_false, Option.bind_some, hc]
        rw [decide_eq_false (by decide), cond_false, cond_false]
        have hm := to_form fx fy
        by_cases hmm : to x = fr y
        · have h3 := hm.2 hmm
          rw [if_pos hmm, h3.1, h3.2, seq_dec, decide_eq_true rfl]
          simp only [beq_self_eq_true, Bool.not_true, cond_false, Option.bind_some]
          have hc2 : (⟨x.key, x.had, y.has, x.was, y.is_⟩ : DChange) = chgOf x.key (fr x) (to y) := by
            obtain ⟨k1, had1, has1, was1, is1⟩ := x
            obtain ⟨k2, had2, has2, was2, is2⟩ := y
            have f1 := fx.1
            have f2 := fy.2
            dsimp only at f1 f2
            cases had1 <;> cases has2 <;> simp_all [chgOf, fr, to]
          rw [hc2, change_differs_eq, Option.bind_some, differs_of]
          unfold dif
          by_cases hd : fr x = to y
          · rw [if_pos hd, decide_eq_true hd]; simp
          · rw [if_neg hd, decide_eq_false hd, Bool.not_false, cond_true, grow_ok (by simp; omega) (by simp; omega)]; rfl
        · rw [if_neg hmm]
          have hne : ¬ (x.has = y.had ∧ x.is_ = y.was) := fun h => hmm (hm.1 h)
          by_cases h4 : x.has = y.had
          · have h5 : ¬ x.is_ = y.was := fun h => hne ⟨h4, h⟩
            rw [h4, seq_dec, decide_eq_false h5]
            simp
          · have : (x.has == y.had) = false := by rw [beq_eq_false_iff_ne]; exact h4
            rw [this]
            simp
      · dsimp only
        by_cases h4 : 400 < r.length
        · rw [if_pos h4, decide_eq_true (by omega), cond_true]
        · rw [if_neg h4, decide_eq_false (by omega), cond_false]
    · left
      exact ⟨fun h => h2 (chkC_zero.2 h.2), _, h2, by rw [bne0_true h2, cond_true]⟩
  · left
    exact ⟨fun h => h1 (chkC_zero.2 h.1), _, h1, by rw [bne0_true h1, cond_true]⟩
end Go.Proofs.Ytiaoncjkfgebdaa
