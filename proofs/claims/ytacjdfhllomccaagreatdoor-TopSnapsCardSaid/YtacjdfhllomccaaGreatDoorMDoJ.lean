/- Plain Lean: changes, as what a key has ahead and behind. Its conditions: none. -/
import Derived.Test.YtacjdfhllomccaaGreatDoorMRunJ
namespace Go.Proofs.YtacjdfhllomccaaGreatDoor
set_option linter.unusedVariables false
set_option linter.unusedSimpArgs false
def e0 : ByteArray := ByteArray.mk #[]
def fr (c : DChange) : Option ByteArray := if c.had then some c.was else none
def to (c : DChange) : Option ByteArray := if c.has then some c.is_ else none
def chgOf (k : DKey) (s t : Option ByteArray) : DChange := ⟨k, s.isSome, t.isSome, s.getD e0, t.getD e0⟩
def differs (c : DChange) : Bool := (!(c.had == c.has)) || (!decide (c.was = c.is_))
def FormC (c : DChange) : Prop := (c.had = false → c.was = e0) ∧ (c.has = false → c.is_ = e0)
theorem form_of (k : DKey) (s t : Option ByteArray) : FormC (chgOf k s t) := by
 cases s <;> cases t <;> simp [FormC, chgOf]
theorem of_form {c : DChange} (h : FormC c) : c = chgOf c.key (fr c) (to c) := by
 obtain ⟨k, had, has, was, is_⟩ := c
 obtain ⟨h1, h2⟩ := h
 dsimp only at h1 h2
 cases had <;> cases has <;> simp_all [chgOf, fr, to]
@[simp] theorem fr_of (k : DKey) (s t : Option ByteArray) : fr (chgOf k s t) = s := by cases s <;> simp [fr, chgOf]
@[simp] theorem to_of (k : DKey) (s t : Option ByteArray) : to (chgOf k s t) = t := by cases t <;> simp [to, chgOf]
@[simp] theorem key_of (k : DKey) (s t : Option ByteArray) : (chgOf k s t).key = k := rfl
theorem differs_of (k : DKey) (s t : Option ByteArray) : differs (chgOf k s t) = !decide (s = t) := by
 cases s with
 | none => cases t with
  | none => simp [differs, chgOf]
  | some y => simp [differs, chgOf]
 | some x => cases t with
  | none => simp [differs, chgOf]
  | some y =>
   by_cases h : x = y
   · rw [decide_eq_true (show some x = some y by rw [h])]
     show ((!(true == true)) || (!decide (x = y))) = _
     rw [decide_eq_true h]; rfl
   · rw [decide_eq_false (show ¬ some x = some y from fun e => h (Option.some.inj e))]
     show ((!(true == true)) || (!decide (x = y))) = _
     rw [decide_eq_false h]; rfl
theorem differs_iff {c : DChange} (h : FormC c) : differs c = !decide (fr c = to c) := by
 conv => lhs; rw [of_form h]
 exact differs_of _ _ _
def KeyLt (a b : DChange) : Prop := cmpK a.key b.key < 0
structure GoodC (l : List DChange) : Prop where
 len : l.length ≤ 400
 key : ∀ c ∈ l, chkK c.key = 0
 val : ∀ c ∈ l, c.was.size ≤ 40 ∧ c.is_.size ≤ 40
 form : ∀ c ∈ l, FormC c
 dif : ∀ c ∈ l, differs c = true
 ord : l.Pairwise KeyLt
theorem KeyLt.trans {a b c : DChange} (h : KeyLt a b) (k : KeyLt b c) : KeyLt a c := cmp_cmpK.lt_trans h k
theorem KeyLt.ne {a b : DChange} (h : KeyLt a b) : a.key ≠ b.key := fun e => by
 unfold KeyLt at h; rw [e, cmp_cmpK.refl] at h; omega
def chAt (l : List DChange) (k : DKey) : Option DChange := l.find? fun c => c.key == k
theorem chAt_cons (c : DChange) (l : List DChange) (k : DKey) : chAt (c :: l) k = if c.key = k then some c else chAt l k := by
 unfold chAt
 rw [List.find?_cons]
 by_cases h : c.key = k
 · rw [if_pos h, beq_iff_eq.2 h]
 · rw [if_neg h, beq_eq_false_iff_ne.2 h]
theorem chAt_none {l : List DChange} {k : DKey} : chAt l k = none ↔ ∀ c ∈ l, c.key ≠ k := by
 unfold chAt; rw [List.find?_eq_none]; simp
theorem chAt_some {l : List DChange} (h : l.Pairwise KeyLt) {k : DKey} {c : DChange} : chAt l k = some c ↔ c ∈ l ∧ c.key = k := by
 unfold chAt
 constructor
 · intro hf
   exact ⟨List.mem_of_find?_eq_some hf, by simpa using List.find?_some hf⟩
 · rintro ⟨h1, h2⟩
   cases hf : l.find? (fun c => c.key == k) with
   | none => rw [List.find?_eq_none] at hf; have := hf c h1; simp [h2] at this
   | some d =>
    have g1 := List.mem_of_find?_eq_some hf
    have g2 := List.find?_some hf
    rw [beq_iff_eq] at g2
    rcases pair_cases h g1 h1 with h3 | h3 | h3
    · rw [h3]
    · exact absurd (g2.trans h2.symm) h3.ne
    · exact absurd (h2.trans g2.symm) h3.ne
theorem ch_ext : ∀ {l m : List DChange}, l.Pairwise KeyLt → m.Pairwise KeyLt → (∀ k, chAt l k = chAt m k) → l = m
 | [], [], _, _, _ => rfl
 | [], b :: m, _, _, h => by have := h b.key; rw [chAt_cons, if_pos rfl] at this; cases this
 | a :: l, [], _, _, h => by have := h a.key; rw [chAt_cons, if_pos rfl] at this; cases this
 | a :: l, b :: m, hl, hm, h => by
  have hl' := hl
  have hm' := hm
  rw [List.pairwise_cons] at hl hm
  have hab : a = b := by
   rcases cmp_cmpK.tri a.key b.key with h1 | h1 | h1
   · have h2 := h a.key
     rw [chAt_cons, if_pos rfl] at h2
     have h3 := ((chAt_some hm').1 h2.symm).1
     rcases List.mem_cons.1 h3 with h3 | h3
     · exact h3
     · have := cmp_cmpK.lt_trans h1 (hm.1 a h3); rw [cmp_cmpK.refl] at this; omega
   · have h2 := h a.key
     rw [chAt_cons, if_pos rfl, chAt_cons, if_pos h1.symm] at h2
     exact Option.some.inj h2
   · have h2 := h b.key
     rw [chAt_cons (c := b), if_pos rfl] at h2
     have h3 := ((chAt_some hl').1 h2).1
     rcases List.mem_cons.1 h3 with h3 | h3
     · exact h3.symm
     · have := cmp_cmpK.lt_trans h1 (hl.1 b h3); rw [cmp_cmpK.refl] at this; omega
  subst hab
  congr 1
  refine ch_ext hl.2 hm.2 fun k => ?_
  have h2 := h k
  rw [chAt_cons, chAt_cons] at h2
  by_cases hk : a.key = k
  · have e1 : chAt l k = none := chAt_none.2 fun c hc e => (hl.1 c hc).ne (hk.trans e.symm)
    have e2 : chAt m k = none := chAt_none.2 fun c hc e => (hm.1 c hc).ne (hk.trans e.symm)
    rw [e1, e2]
  · rw [if_neg hk, if_neg hk] at h2
    exact h2
def dif (k : DKey) (s t : Option ByteArray) : Option DChange := if s = t then none else some (chgOf k s t)
def vAt (l : List DElem) (k : DKey) (t : Int) : Option ByteArray := (atR l k t).map (·.val)
structure BetwSpec (l : List DElem) (a b : Int) (cs : List DChange) : Prop where
 ord : cs.Pairwise KeyLt
 at_ : ∀ k, chAt cs k = dif k (vAt l k a) (vAt l k b)
 len : cs.length ≤ l.length
theorem BetwSpec.one {l : List DElem} {a b : Int} {c d : List DChange} (h : BetwSpec l a b c) (h' : BetwSpec l a b d) : c = d :=
 ch_ext h.ord h'.ord fun k => by rw [h.at_, h'.at_]
theorem vAt_some {l : List DElem} (h : l.Pairwise Bef) {k : DKey} {t : Int} {v : ByteArray} (hv : vAt l k t = some v) : ∃ e ∈ l, e.key = k ∧ e.val = v := by
 unfold vAt at hv
 rw [Option.map_eq_some_iff] at hv
 obtain ⟨e, h1, h2⟩ := hv
 obtain ⟨h3, h4, _⟩ := (atR_some h).1 h1
 exact ⟨e, h3, h4, h2⟩
def inv (c : DChange) : DChange := ⟨c.key, c.has, c.had, c.is_, c.was⟩
def backC (l : List DChange) : List DChange := l.map inv
theorem back_ord {l : List DChange} (h : l.Pairwise KeyLt) : (backC l).Pairwise KeyLt := by
 unfold backC; rw [List.pairwise_map]; exact h
theorem GoodC.back {l : List DChange} (h : GoodC l) : GoodC (backC l) := by
 refine ⟨by unfold backC; rw [List.length_map]; exact h.len, fun c hc => ?_, fun c hc => ?_, fun c hc => ?_, fun c hc => ?_, back_ord h.ord⟩ <;> (obtain ⟨d, hd, rfl⟩ := List.mem_map.1 hc)
 · exact h.key d hd
 · exact ⟨(h.val d hd).2, (h.val d hd).1⟩
 · exact ⟨(h.form d hd).2, (h.form d hd).1⟩
 · have := h.dif d hd
   unfold differs at this ⊢
   rw [Bool.or_eq_true, Bool.not_eq_true', Bool.not_eq_true', beq_eq_false_iff_ne, decide_eq_false_iff_not] at this ⊢
   exact this.imp (fun h e => h e.symm) (fun h e => h e.symm)
def meets (x y : Option DChange) : Prop := match x, y with
 | some c, some d => to c = fr d
 | _, _ => True
def comp (x y : Option DChange) : Option DChange := match x, y with
 | some c, some d => dif c.key (fr c) (to d)
 | some c, none => some c
 | none, some d => some d
 | none, none => none
structure ThenSpec (a b r : List DChange) : Prop where
 ord : r.Pairwise KeyLt
 meet : ∀ k, meets (chAt a k) (chAt b k)
 at_ : ∀ k, chAt r k = comp (chAt a k) (chAt b k)
theorem ThenSpec.one {a b r q : List DChange} (h : ThenSpec a b r) (h' : ThenSpec a b q) : r = q := ch_ext h.ord h'.ord fun k => by rw [h.at_, h'.at_]
theorem chAt_gt {x : DChange} {l : List DChange} (h : ∀ c ∈ l, KeyLt x c) : chAt l x.key = none := chAt_none.2 fun c hc e => (h c hc).ne e.symm
section
variable {f : List DChange × List DChange × List DChange → Option ((List DChange × List DChange × List DChange) ⊕ (List DChange ⊕ (List DChange × Int)))} {M : Nat}
end
def lastV (t : Int) (h : List DElem) (s : Option ByteArray) : Option ByteArray := h.foldl (fun s x => if live x t then some x.val else s) s
theorem lastV_hist {k : DKey} {t : Int} : ∀ {h : List DElem}, h.Pairwise Bef → (∀ x ∈ h, x.key = k) → ∀ s, lastV t h s = match h.find? (fun x => live x t) with | some x => some x.val | none => s
 | [], _, _, _ => rfl
 | x :: h, hp, hk, s => by
  have hp' := List.pairwise_cons.1 hp
  show lastV t h (if live x t then some x.val else s) = _
  rw [lastV_hist hp'.2 (fun y hy => hk y (by simp [hy])), List.find?_cons]
  cases hx : live x t with
  | false => rfl
  | true =>
   have : h.find? (fun y => live y t) = none := by
    rw [List.find?_eq_none]
    intro y hy hl
    have := Run.live_one hp (by simp) (show y ∈ x :: h by simp [hy]) ((hk x (by simp)).trans (hk y (by simp [hy])).symm) hx hl
    subst this
    exact (hp'.1 x hy).irrefl
   rw [this]; rfl
theorem lastV_vAt {l : List DElem} (h : l.Pairwise Bef) (k : DKey) (t : Int) : lastV t (hist l k) none = vAt l k t := by
 rw [lastV_hist (show (hist l k).Pairwise Bef from h.sublist List.filter_sublist) (hist_keys l k)]
 unfold vAt
 rw [atR_hist]
 cases (hist l k).find? (fun x => live x t) <;> rfl
section
variable {f : List DChange × Int → Option ((List DChange × Int) ⊕ List DChange)} {l : List DElem} {a b : Int}
end
end Go.Proofs.YtacjdfhllomccaaGreatDoor
/- Plain Lean: changes that are done. Its conditions: none. -/
namespace Go.Proofs.YtacjdfhllomccaaGreatDoor
set_option linter.unusedVariables false
set_option linter.unusedSimpArgs false
def doH (x : Option DChange) (t : Int) (h : List DElem) : List DElem := match x with
 | none => h
 | some c => if c.has then clo h t ++ [newE c.key c.is_ t] else clo h t
structure DoSpec (l : List DElem) (cs : List DChange) (t : Int) (m : List DElem) : Prop where
 run : Run m
 last : lastL m ≤ t
 at_ : ∀ k, hist m k = doH (chAt cs k) t (hist l k)
def nowV (l : List DElem) (k : DKey) : Option ByteArray := (nowR l k).map (·.val)
theorem nowV_at {l : List DElem} (h : Run l) {u : Int} (hu : lastL l ≤ u) (k : DKey) : vAt l k u = nowV l k := by
 unfold vAt nowV; rw [nowR_at h hu]
theorem nowV_hist {l m : List DElem} {k : DKey} (h : hist l k = hist m k) : nowV l k = nowV m k := by unfold nowV; rw [nowR_other h]
structure DoPre (m : List DElem) (cs : List DChange) (t : Int) : Prop where
 run : Run m
 last : lastL m ≤ t
 lo : 1 ≤ t
 hi : t ≤ 2147483647
 had : ∀ c ∈ cs, nowV m c.key = fr c
variable {ρ : Type}
theorem do_put {m : List DElem} {c : DChange} {cs : List DChange} {t : Int} (g : (c :: cs).Pairwise KeyLt) (h : DoPre m (c :: cs) t) (hk : chkK c.key = 0) (hv : c.is_.size ≤ 40) (hlen : (putR m c.key c.is_ t).length ≤ 400) :
 DoPre (putR m c.key c.is_ t) cs t := by
 have hc := chkE_new hk h.lo h.hi hv
 refine ⟨h.run.putR h.last hc hlen, Int.le_of_eq (last_put h.run h.last hc), h.lo, h.hi, fun d hd => ?_⟩
 rw [List.pairwise_cons] at g
 have hne := (g.1 d hd).ne
 rw [nowV_hist (hist_put_other h.run (fun e => hne e.symm))]
 exact h.had d (by simp [hd])
theorem do_cut {m : List DElem} {c : DChange} {cs : List DChange} {t : Int} (g : (c :: cs).Pairwise KeyLt) (h : DoPre m (c :: cs) t) : DoPre (cutR m c.key t) cs t := by
 refine ⟨h.run.cutR h.last h.lo h.hi _, last_cut h.run h.last h.lo h.hi, h.lo, h.hi, fun d hd => ?_⟩
 rw [List.pairwise_cons] at g
 have hne := (g.1 d hd).ne
 rw [nowV_hist (hist_cut_other h.run (fun e => hne e.symm))]
 exact h.had d (by simp [hd])
theorem DoSpec.nil {m : List DElem} {t : Int} (h : DoPre m [] t) : DoSpec m [] t m := ⟨h.run, h.last, fun k => rfl⟩
theorem DoSpec.cons {l m n : List DElem} {c : DChange} {cs : List DChange} {t : Int} (g : (c :: cs).Pairwise KeyLt) (h : DoSpec m cs t n) (hs : hist m c.key = doH (some c) t (hist l c.key)) (ho : ∀ k, k ≠ c.key → hist m k = hist l k) : DoSpec l (c :: cs) t n := by
 refine ⟨h.run, h.last, fun k => ?_⟩
 rw [h.at_, chAt_cons]
 rw [List.pairwise_cons] at g
 by_cases hk : c.key = k
 · subst hk
   rw [if_pos rfl, chAt_gt g.1, ← hs]; rfl
 · rw [if_neg hk, ho k (fun e => hk e.symm)]
theorem do_had {c : DChange} (hf : FormC c) (hd : differs c = true) (hh : c.has = false) {l : List DElem} (h : nowV l c.key = fr c) : ∃ e, nowR l c.key = some e := by
 rw [differs_iff hf] at hd
 have h1 : to c = none := by unfold to; rw [hh]; rfl
 have h2 : fr c ≠ none := fun e => by rw [e, h1] at hd; simp at hd
 cases hn : nowR l c.key with
 | none => unfold nowV at h; rw [hn] at h; exact absurd h.symm h2
 | some e => exact ⟨e, rfl⟩
theorem DoSpec.late {l m : List DElem} {cs : List DChange} {t : Int} (hl : Run l) (h : DoSpec l cs t m) (ho : cs.Pairwise KeyLt) (ht : lastL l ≤ t) (h0 : 1 ≤ t) (h1 : t ≤ 2147483647) {u : Int} (hu : t ≤ u) (k : DKey) :
 vAt m k u = match chAt cs k with | none => nowV l k | some c => to c := by
 have hm := h.at_ k
 unfold vAt
 rw [atR_hist, hm]
 cases hc : chAt cs k with
 | none =>
  show ((hist l k).find? fun e => live e u).map _ = _
  rw [← atR_hist]
  exact nowV_at hl (by omega) k
 | some c =>
  have hk := ((chAt_some ho).1 hc).2
  obtain ⟨c1, c2, c3⟩ := hl.clo ht h0 h1 k
  have hno := find_clo_late (hist l k) (fun e he => (c3 e he).1) h0 hu
  unfold doH
  dsimp only
  by_cases hh : c.has = true
  · rw [if_pos hh, List.find?_append, hno, Option.none_or, List.find?_cons_of_pos (by rw [live_iff]; unfold newE; dsimp only; omega)]
    unfold to; rw [hh]; rfl
  · rw [if_neg hh, hno]
    unfold to; rw [show c.has = false by simpa using hh]; rfl
theorem DoSpec.past {l m : List DElem} {cs : List DChange} {t : Int} (h : DoSpec l cs t m) {u : Int} (hu : u < t) (k : DKey) : vAt m k u = vAt l k u := by
 have hm := h.at_ k
 unfold vAt
 rw [atR_hist, atR_hist, hm]
 have hval : ∀ o : Option DElem, (o.map (endE t)).map (·.val) = o.map (·.val) := fun o => by
  cases o with
  | none => rfl
  | some e => show some (endE t e).val = some e.val; unfold endE; split <;> rfl
 cases chAt cs k with
 | none => rfl
 | some c =>
  unfold doH
  dsimp only
  split
  · rw [List.find?_append, find_clo_past _ hu]
    cases (hist l k).find? fun e => live e u with
    | some e => rw [Option.map_some, Option.some_or]; exact hval (some e)
    | none =>
     rw [Option.map_none, Option.none_or, List.find?_cons_of_neg (by rw [live_iff]; unfold newE; dsimp only; omega)]; rfl
  · rw [find_clo_past _ hu, hval]
end Go.Proofs.YtacjdfhllomccaaGreatDoor
