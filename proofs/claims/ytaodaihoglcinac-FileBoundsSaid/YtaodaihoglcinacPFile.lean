/- Plain Lean: texts in blocks. Its conditions: none. -/
import Derived.Test.YtaodaihoglcinacFileF
import Derived.Test.YtaodaihoglcinacPDo
namespace Go.Proofs.Ytaodaihoglcinac
set_option linter.unusedVariables false
set_option linter.unusedSimpArgs false
variable {F : Nat} [Big F]

/-! ### Maps -/
def mlook (m : List (Int × ByteArray)) (k : Int) : Option ByteArray := (mfind k m 0).map (·.2)
theorem mfind_shift (k : Int) : ∀ (m : List (Int × ByteArray)) (i : Nat), (mfind k m i).map (·.2) = mlook m k
  | [], _ => rfl
  | p :: m, i => by
    unfold mlook
    rw [mfind, mfind]
    split
    · rfl
    · rw [mfind_shift k m (i + 1), mfind_shift k m (0 + 1)]
theorem mlook_cons (p : Int × ByteArray) (m : List (Int × ByteArray)) (k : Int) : mlook (p :: m) k = if p.1 = k then some p.2 else mlook m k := by
  conv => lhs; unfold mlook
  rw [mfind]
  split
  · rfl
  · exact mfind_shift k m (0 + 1)
theorem mget_look (m : List (Int × ByteArray)) (k : Int) : mget m k = (mlook m k).getD e0 := by
  unfold mget mlook
  cases mfind k m 0 <;> rfl
theorem mhas_look (m : List (Int × ByteArray)) (k : Int) : mhas m k = (mlook m k).isSome := by
  unfold mhas mlook
  cases mfind k m 0 <;> rfl
theorem mfind_off (k : Int) : ∀ (m : List (Int × ByteArray)) (i : Nat), mfind k m (i + 1) = (mfind k m i).map fun p => (p.1 + 1, p.2)
  | [], _ => rfl
  | p :: m, i => by
    rw [mfind, mfind]
    split
    · rfl
    · exact mfind_off k m (i + 1)
theorem mput_cons (p : Int × ByteArray) (m : List (Int × ByteArray)) (k : Int) (v : ByteArray) : mput (p :: m) k v = if p.1 = k then (p.1, v) :: m else p :: mput m k v := by
  by_cases hp : p.1 = k
  · rw [if_pos hp]
    unfold mput
    rw [mfind, if_pos hp]; rfl
  · rw [if_neg hp]
    unfold mput
    rw [mfind, if_neg hp, mfind_off]
    cases mfind k m 0 <;> rfl
theorem mlook_put (k : Int) (v : ByteArray) (j : Int) : ∀ m : List (Int × ByteArray), mlook (mput m k v) j = if j = k then some v else mlook m j
  | [] => by
    show mlook [(k, v)] j = _
    rw [mlook_cons]
    by_cases h : j = k
    · rw [if_pos h, if_pos h.symm]
    · rw [if_neg h, if_neg (fun e => h e.symm)]
  | p :: m => by
    rw [mput_cons]
    by_cases hp : p.1 = k
    · rw [if_pos hp, mlook_cons, mlook_cons]
      by_cases h : j = k
      · rw [if_pos h, if_pos (hp.trans h.symm)]
      · rw [if_neg h, if_neg (show ¬ p.1 = j from fun e => h (e.symm.trans hp)), if_neg (show ¬ p.1 = j from fun e => h (e.symm.trans hp))]
    · rw [if_neg hp, mlook_cons, mlook_cons, mlook_put k v j m]
      by_cases h : j = k
      · rw [if_pos h]
        by_cases hj : p.1 = j
        · exact absurd (hj.trans h) hp
        · rw [if_neg hj, if_pos h]
      · rw [if_neg h, if_neg h]

/-! ### Blocks -/
/-- The key of a block. -/
def bkF (p o : Int) (i : Nat) : DKey := ⟨p, o, 1 + (i : Int)⟩
theorem bkF_inj {p o : Int} {i j : Nat} (h : bkF p o i = bkF p o j) : i = j := by
  have := congrArg DKey.off h
  simp [bkF] at this; omega
theorem bkF_lt {p o : Int} {i j : Nat} (h : i < j) : cmpK (bkF p o i) (bkF p o j) < 0 := by
  rw [cmpK_def]
  simp [bkF, ord]; omega
theorem bkF_ok {p o : Int} {i : Nat} (h : chkK (bkF p o 0) = 0) (hi : i ≤ 1000) : chkK (bkF p o i) = 0 := by
  unfold chkK bkF at *
  dsimp only at *
  split at h
  · cases h
  · rw [if_neg]; omega
def lookF (l : List DElem) (p o : Int) : Int := if chkR l ≠ 0 then chkR l else chkK (bkF p o 0)
theorem lookF_zero {l : List DElem} {p o : Int} : lookF l p o = 0 ↔ Run l ∧ chkK (bkF p o 0) = 0 := by
  unfold lookF; rw [← chkR_zero]; split <;> simp_all
theorem file_look_eq (l : List DElem) (p o : Int) : file_look F l p o = some (lookF l p o) := by
  unfold file_look lookF
  rw [run_Check_eq, Option.bind_some]
  by_cases h : chkR l = 0
  · rw [bne0_false h, cond_false, if_neg (by simpa using h)]
    show (some (DKey.mk p o (IntKind.i64.wrap (1 + 0)))).bind _ = _
    rw [Option.bind_some, show IntKind.i64.wrap (1 + 0) = 1 by decide]
    show (key_Check (bkF p o 0)).bind _ = _
    rw [key_Check_eq, Option.bind_some]
  · rw [bne0_true h, cond_true, if_pos h]

/-! ### The texts that are there -/
def tcond (p o t : Int) (e : DElem) : Bool := e.key.pfs == p && (e.key.obj == o && (decide (0 ≤ e.key.off - 1) && (decide (e.key.off - 1 < 20) && live e t)))
def stT (p o t : Int) (m : List (Int × ByteArray)) (e : DElem) : List (Int × ByteArray) := if tcond p o t e then mput m (e.key.off - 1) e.val else m
def mapT (l : List DElem) (p o t : Int) : List (Int × ByteArray) := l.foldl (stT p o t) []
theorem tcond_iff {p o t : Int} {e : DElem} {i : Nat} (hi : i < 20) : (tcond p o t e = true ∧ e.key.off - 1 = (i : Int)) ↔ e.key = bkF p o i ∧ live e t = true := by
  unfold tcond bkF
  obtain ⟨⟨a, b, c⟩, d, g, v⟩ := e
  simp only [Bool.and_eq_true, beq_iff_eq, decide_eq_true_eq, DKey.mk.injEq]
  constructor
  · rintro ⟨⟨h1, h2, h3, h4, h5⟩, h6⟩; exact ⟨⟨h1, h2, by omega⟩, h5⟩
  · rintro ⟨⟨h1, h2, h3⟩, h5⟩; exact ⟨⟨h1, h2, by omega, by omega, h5⟩, by omega⟩
theorem mapT_from (p o t : Int) {i : Nat} (hi : i < 20) : ∀ (l : List DElem) (m : List (Int × ByteArray)), mlook (l.foldl (stT p o t) m) i = lastV t (hist l (bkF p o i)) (mlook m i)
  | [], _ => rfl
  | e :: l, m => by
    rw [List.foldl_cons, mapT_from p o t hi l]
    have hh : hist (e :: l) (bkF p o i) = if e.key = bkF p o i then e :: hist l (bkF p o i) else hist l (bkF p o i) := by
      unfold hist
      rw [List.filter_cons]
      by_cases hk : e.key = bkF p o i
      · rw [if_pos (by simpa using hk), if_pos hk]
      · rw [if_neg (by simpa using hk), if_neg hk]
    rw [hh]
    have key := tcond_iff (p := p) (o := o) (t := t) (e := e) hi
    unfold stT
    by_cases hk : e.key = bkF p o i
    · rw [if_pos hk]
      show _ = lastV t (hist l (bkF p o i)) (if live e t then some e.val else mlook m i)
      by_cases hl : live e t = true
      · have := key.2 ⟨hk, hl⟩
        rw [if_pos this.1, mlook_put, if_pos this.2.symm, if_pos hl]
      · rw [if_neg hl]
        by_cases hc : tcond p o t e = true
        · rw [if_pos hc, mlook_put, if_neg (fun h => hl (key.1 ⟨hc, h.symm⟩).2)]
        · rw [if_neg hc]
    · rw [if_neg hk]
      by_cases hc : tcond p o t e = true
      · rw [if_pos hc, mlook_put, if_neg (fun h => hk (key.1 ⟨hc, h.symm⟩).1)]
      · rw [if_neg hc]
theorem mapT_get {l : List DElem} (h : Run l) (p o t : Int) {i : Nat} (hi : i < 20) : mlook (mapT l p o t) i = vAt l (bkF p o i) t := by
  unfold mapT
  rw [mapT_from p o t hi, ← lastV_vAt h.ord]; rfl
theorem vAt_size {l : List DElem} (h : Run l) (k : DKey) (t : Int) : ((vAt l k t).getD e0).size ≤ 40 := by
  cases hv : vAt l k t with
  | none => exact (by decide : (0 : Nat) ≤ 40)
  | some v =>
    obtain ⟨e, he, _, rfl⟩ := vAt_some h.ord hv
    exact (chkE_ok (h.ok e he)).2.2.2.2
theorem tstep {l : List DElem} (hr : Run l) {p o t : Int} {k : Nat} {e : DElem} (hk : l[k]? = some e) (m : List (Int × ByteArray)) :
    ((((idx l (k : Int)).bind fun e1 =>
                    (
                      bif (e1.key.pfs == p) then
                          bif (e1.key.obj == o) then
                            bif decide ((0 : Int) ≤ (IntKind.i64.wrap (e1.key.off - 1))) then
                              bif decide ((IntKind.i64.wrap (e1.key.off - 1)) < 20) then
                                (elem_Live e1 t).bind fun r2 =>
                                some r2
                              else
                                some false
                            else
                              some false
                          else
                            some false
                        else
                          some false : Option (Bool)).bind fun z4 =>
                    bif z4 then
                      some (mput m (IntKind.i64.wrap (e1.key.off - 1)) e1.val)
                    else
                      some m : Option ((List (Int × ByteArray))))) = some (stT p o t m e)) := by
  rw [idx_nat', hk, Option.bind_some]
  have hc := (chkE_ok (hr.ok e (List.mem_of_getElem? hk))).1
  have hoff : 0 ≤ e.key.off ∧ e.key.off ≤ 1073741824 := by
    unfold chkK at hc
    split at hc
    · cases hc
    · omega
  rw [w64 (n := e.key.off - 1) (by omega) (by omega), elem_Live_eq]
  unfold stT tcond
  cases e.key.pfs == p
  · rfl
  · cases e.key.obj == o
    · rfl
    · cases decide (0 ≤ e.key.off - 1)
      · rfl
      · cases decide (e.key.off - 1 < 20)
        · rfl
        · cases live e t <;> rfl

/-! ### Get -/
def contentTo (l : List DElem) (p o t : Int) (n : Nat) : ByteArray := (List.range n).foldl (fun a i => a ++ (vAt l (bkF p o i) t).getD e0) e0
def content (l : List DElem) (p o t : Int) : ByteArray := contentTo l p o t 20
theorem contentTo_succ (l : List DElem) (p o t : Int) (n : Nat) : contentTo l p o t (n + 1) = contentTo l p o t n ++ (vAt l (bkF p o n) t).getD e0 := by
  unfold contentTo; rw [List.range_succ, List.foldl_append]; rfl
theorem contentTo_size {l : List DElem} (h : Run l) (p o t : Int) (n : Nat) : (contentTo l p o t n).size ≤ 40 * n := by
  induction n with
  | zero => exact (by decide : (0 : Nat) ≤ 0)
  | succ n ih =>
    rw [contentTo_succ, ByteArray.size_append]
    have := vAt_size h (bkF p o n) t
    omega
theorem scat_ok {x y : ByteArray} (h : x.size + y.size ≤ 9223372036854775807) : scat x y = some (x ++ y) := by unfold scat; rw [if_pos h]
/-! ### Set -/
/-- What a block must hold. -/
def want (s : ByteArray) (i : Nat) : Option ByteArray := if 16 * i < s.size then some (s.extract (16 * i) (min (16 * i + 16) s.size)) else none
def setC (l : List DElem) (p o : Int) (s : ByteArray) : List DChange := (List.range 20).filterMap fun i => dif (bkF p o i) (nowV l (bkF p o i)) (want s i)
theorem want_size (s : ByteArray) (i : Nat) : ((want s i).getD e0).size ≤ 16 := by
  unfold want
  split
  · rw [Option.getD_some, ByteArray.size_extract]; omega
  · exact (by decide : (0 : Nat) ≤ 16)
def optStep {α β τ ε : Type} (st : τ → β → τ ⊕ ε) (g : α → Option β) (a : τ) (x : α) : τ ⊕ ε := match g x with | none => .inl a | some y => st a y
theorem foldE_filterMap {α β τ ε : Type} (st : τ → β → τ ⊕ ε) (g : α → Option β) : ∀ (l : List α) (a : τ), foldE st a (l.filterMap g) = foldE (optStep st g) a l
  | [], _ => rfl
  | x :: l, a => by
    rw [foldE]
    unfold optStep
    cases hg : g x with
    | none => rw [List.filterMap_cons_none hg]; exact foldE_filterMap st g l a
    | some y =>
      rw [List.filterMap_cons_some hg, foldE]
      dsimp only
      cases st a y with
      | inl a' => exact foldE_filterMap st g l a'
      | inr r => rfl
theorem setC_key {l : List DElem} {p o : Int} {s : ByteArray} {c : DChange} (h : c ∈ setC l p o s) : ∃ i, i < 20 ∧ c.key = bkF p o i ∧ nowV l (bkF p o i) ≠ want s i ∧ c = chgOf (bkF p o i) (nowV l (bkF p o i)) (want s i) := by
  unfold setC at h
  rw [List.mem_filterMap] at h
  obtain ⟨i, hi, hd⟩ := h
  rw [List.mem_range] at hi
  unfold dif at hd
  split at hd
  · cases hd
  · rename_i hne
    obtain rfl := Option.some.inj hd
    exact ⟨i, hi, rfl, hne, rfl⟩
theorem setC_ord (l : List DElem) (p o : Int) (s : ByteArray) : (setC l p o s).Pairwise KeyLt := by
  unfold setC
  rw [List.pairwise_filterMap]
  refine List.pairwise_lt_range.imp fun {i j} hij x hx y hy => ?_
  unfold dif at hx hy
  split at hx
  · cases hx
  · split at hy
    · cases hy
    · obtain rfl := Option.some.inj hx
      obtain rfl := Option.some.inj hy
      exact bkF_lt hij
theorem setC_at {l : List DElem} {p o : Int} {s : ByteArray} {i : Nat} (hi : i < 20) : chAt (setC l p o s) (bkF p o i) = dif (bkF p o i) (nowV l (bkF p o i)) (want s i) := by
  cases hd : dif (bkF p o i) (nowV l (bkF p o i)) (want s i) with
  | none =>
    rw [chAt_none]
    intro c hc e
    obtain ⟨j, hj, h1, h2, _⟩ := setC_key hc
    have := bkF_inj (h1.symm.trans e)
    subst this
    unfold dif at hd
    rw [if_neg h2] at hd
    cases hd
  | some c =>
    rw [chAt_some (setC_ord l p o s)]
    refine ⟨?_, ?_⟩
    · unfold setC; rw [List.mem_filterMap]; exact ⟨i, List.mem_range.2 hi, hd⟩
    · unfold dif at hd
      split at hd
      · cases hd
      · obtain rfl := Option.some.inj hd; rfl
theorem setC_other {l : List DElem} {p o : Int} {s : ByteArray} {k : DKey} (h : ∀ i, i < 20 → k ≠ bkF p o i) : chAt (setC l p o s) k = none := by
  rw [chAt_none]
  intro c hc e
  obtain ⟨j, hj, h1, _⟩ := setC_key hc
  exact h j hj (e.symm.trans h1)
theorem setC_good {l : List DElem} (hr : Run l) {p o : Int} (hk : chkK (bkF p o 0) = 0) (s : ByteArray) : GoodC (setC l p o s) := by
  refine ⟨?_, fun c hc => ?_, fun c hc => ?_, fun c hc => ?_, fun c hc => ?_, setC_ord l p o s⟩
  · unfold setC
    have := List.length_filterMap_le (fun i => dif (bkF p o i) (nowV l (bkF p o i)) (want s i)) (List.range 20)
    rw [List.length_range] at this
    omega
  · obtain ⟨i, hi, h1, _⟩ := setC_key hc; rw [h1]; exact bkF_ok hk (by omega)
  · obtain ⟨i, hi, _, _, h1⟩ := setC_key hc
    rw [h1]
    have a1 := vAt_size hr (bkF p o i) 2147483647
    rw [nowV_at hr hr.last_le] at a1
    have a2 := want_size s i
    exact ⟨a1, by show ((want s i).getD e0).size ≤ 40; omega⟩
  · obtain ⟨i, _, _, _, h1⟩ := setC_key hc; rw [h1]; exact form_of _ _ _
  · obtain ⟨i, _, _, h2, h1⟩ := setC_key hc; rw [h1, differs_of]; simpa using h2
theorem setC_had {l : List DElem} {p o : Int} {s : ByteArray} : ∀ c ∈ setC l p o s, nowV l c.key = fr c := fun c hc => by
  obtain ⟨i, _, h0, _, h1⟩ := setC_key hc
  rw [h1, fr_of, key_of]
/-- The error of a setting ahead of the blocks. -/
def setE (l : List DElem) (p o : Int) (s : ByteArray) (t : Int) : Int := if lookF l p o ≠ 0 then lookF l p o else if 320 < s.size then 2 else if t < 1 ∨ 2147483647 < t ∨ t < lastL l then 9 else 0
theorem setE_zero {l : List DElem} {p o : Int} {s : ByteArray} {t : Int} : setE l p o s t = 0 ↔ Run l ∧ chkK (bkF p o 0) = 0 ∧ s.size ≤ 320 ∧ 1 ≤ t ∧ t ≤ 2147483647 ∧ lastL l ≤ t := by
  rw [← and_assoc, ← lookF_zero]
  unfold setE
  split
  · simp_all
  · split
    · constructor
      · intro h; cases h
      · omega
    · split
      · constructor
        · intro h; cases h
        · omega
      · constructor
        · intro _; omega
        · intro _; rfl
theorem file_Set_eq (l : List DElem) (p o : Int) (s : ByteArray) (t : Int) : file_Set F l p o s t = some (if setE l p o s t ≠ 0 then ([], setE l p o s t) else match foldE (doStep t) l (setC l p o s) with | .inl m => (m, 0) | .inr r => ([], r)) := by
  unfold file_Set
  rw [file_look_eq, Option.bind_some]
  by_cases h : lookF l p o = 0
  · obtain ⟨hr, hk⟩ := lookF_zero.1 h
    have hlen := hr.len
    rw [bne0_false h, cond_false]
    by_cases hs : 320 < s.size
    · have hE : setE l p o s t = 2 := by unfold setE; rw [if_neg (by simpa using h), if_pos hs]
      rw [decide_eq_true (by omega), cond_true, hE]; rfl
    · rw [decide_eq_false (by omega), cond_false, run_Last_eq, chkR_run hr, Option.bind_some, if_pos rfl]
      by_cases ht : t < 1 ∨ 2147483647 < t ∨ t < lastL l
      · have hE : setE l p o s t = 9 := by unfold setE; rw [if_neg (by simpa using h), if_neg hs, if_pos ht]
        rw [show (decide (t < 1) || (decide ((2147483647 : Int) < t) || decide (t < lastL l))) = true by simpa using ht, cond_true, hE]; rfl
      · have hE : setE l p o s t = 0 := by unfold setE; rw [if_neg (by simpa using h), if_neg hs, if_neg ht]
        rw [show (decide (t < 1) || (decide ((2147483647 : Int) < t) || decide (t < lastL l))) = false by simpa using ht, cond_false, hE, if_neg (by simp)]
        rw [loop_fold l (stT p o 2147483647) [] (r := mapT l p o 2147483647) (by omega) rfl (fun k e hk => ?_) (by simp [mapT]), Option.bind_some, Option.bind_some]
        · rw [grow_ok (by simp; omega) (by simp; omega), Option.bind_some, List.nil_append]
          unfold setC
          rw [foldE_filterMap]
          rw [loop_foldE (List.range 20) (optStep (doStep t) fun i => dif (bkF p o i) (nowV l (bkF p o i)) (want s i)) (fun r => Sum.inr ([], r)) (fun m => Sum.inl m) l (by decide) rfl (fun k i m hi => ?_) (fun m => rfl), Option.bind_some]
          · generalize foldE (optStep (doStep t) fun i => dif (bkF p o i) (nowV l (bkF p o i)) (want s i)) l (List.range 20) = q
            cases q <;> rfl
          · have hk20 : k < 20 := by have := (List.getElem?_eq_some_iff.1 hi).1; simpa using this
            obtain rfl : k = i := by
              rw [List.getElem?_range hk20] at hi
              exact Option.some.inj hi
            have hm := mapT_get hr p o 2147483647 hk20
            rw [nowV_at hr hr.last_le] at hm
            unfold optStep
            dsimp only
            rw [decide_eq_true (by omega), cond_true, mhas_look, mget_look, hm]
            have w1 : IntKind.i64.wrap ((k : Int) * 16) = ((16 * k : Nat) : Int) := by rw [w64 (by omega) (by omega)]; omega
            have w2 : IntKind.i64.wrap (((16 * k : Nat) : Int) + 16) = ((16 * k + 16 : Nat) : Int) := by rw [w64 (by omega) (by omega)]; omega
            have w3 : IntKind.i64.wrap ((k : Int) + 1) = (k : Int) + 1 := w64 (by omega) (by omega)
            have hblk : file_block p o (k : Int) = some (bkF p o k) := by
              show some (DKey.mk p o (IntKind.i64.wrap (1 + (k : Int)))) = _
              rw [w64 (by omega) (by omega)]; rfl
            rw [w1, w2, w3, hblk]
            simp only [Option.bind_some, run_Put_eq, run_Cut_eq]
            by_cases hat : 16 * k < s.size
            · have hw : want s k = some (s.extract (16 * k) (min (16 * k + 16) s.size)) := by unfold want; rw [if_pos hat]
              have hsl : sslice s ((16 * k : Nat) : Int) (if ((16 * k + 16 : Nat) : Int) < (s.size : Int) then ((16 * k + 16 : Nat) : Int) else (s.size : Int)) = some (s.extract (16 * k) (min (16 * k + 16) s.size)) := by
                unfold sslice
                rw [if_pos ⟨by omega, by split <;> omega, by split <;> omega⟩]
                congr 2
                split <;> omega
              rw [decide_eq_true (show ((16 * k : Nat) : Int) < (s.size : Int) by omega), cond_true, hsl, Option.bind_some, hw]
              generalize s.extract (16 * k) (min (16 * k + 16) s.size) = v
              have hst : ∀ x, doStep t m (chgOf (bkF p o k) x (some v)) = if putE m (bkF p o k) v t = 0 then .inl (putR m (bkF p o k) v t) else .inr (putE m (bkF p o k) v t) := fun x => rfl
              cases hn : nowV l (bkF p o k) with
              | none =>
                have hd : dif (bkF p o k) none (some v) = some (chgOf (bkF p o k) none (some v)) := rfl
                rw [hd]
                dsimp only
                rw [hst]
                simp only [Option.isSome_none, Bool.false_and, cond_false, Option.bind_some]
                by_cases hz : putE m (bkF p o k) v t = 0
                · simp only [bne0_false hz, if_pos hz]; rfl
                · simp only [bne0_true hz, if_neg hz]; rfl
              | some u =>
                simp only [Option.isSome_some, cond_true, Option.getD_some, seq_dec]
                by_cases hu : u = v
                · have hd : dif (bkF p o k) (some u) (some v) = none := by unfold dif; rw [if_pos (by rw [hu])]
                  rw [hd, decide_eq_true hu]; rfl
                · have hd : dif (bkF p o k) (some u) (some v) = some (chgOf (bkF p o k) (some u) (some v)) := by unfold dif; rw [if_neg (fun e => hu (Option.some.inj e))]
                  rw [hd, decide_eq_false hu]
                  dsimp only
                  rw [hst, Bool.and_false, cond_false, Option.bind_some]
                  by_cases hz : putE m (bkF p o k) v t = 0
                  · simp only [bne0_false hz, if_pos hz]; rfl
                  · simp only [bne0_true hz, if_neg hz]; rfl
            · have hw : want s k = none := by unfold want; rw [if_neg hat]
              rw [decide_eq_false (show ¬ ((16 * k : Nat) : Int) < (s.size : Int) by omega), cond_false, hw]
              cases hn : nowV l (bkF p o k) with
              | none => rfl
              | some u =>
                have hd : dif (bkF p o k) (some u) none = some (chgOf (bkF p o k) (some u) none) := rfl
                have hst : doStep t m (chgOf (bkF p o k) (some u) none) = if cutE m (bkF p o k) t = 0 then .inl (cutR m (bkF p o k) t) else .inr (cutE m (bkF p o k) t) := rfl
                rw [hd]
                dsimp only
                rw [hst]
                simp only [Option.isSome_some, cond_true, Option.bind_some]
                by_cases hz : cutE m (bkF p o k) t = 0
                · simp only [bne0_false hz, if_pos hz]; rfl
                · simp only [bne0_true hz, if_neg hz]; rfl
        · have hkl := (List.getElem?_eq_some_iff.1 hk).1
          dsimp only
          rw [decide_eq_true (by omega), cond_true, tstep hr hk, Option.bind_some, w64 (by omega) (by omega)]
  · have hE : setE l p o s t = lookF l p o := by unfold setE; rw [if_pos h]
    rw [bne0_true h, cond_true, hE, if_pos h]
/-- What file.Set answers. -/
theorem file_Set_cases (l : List DElem) (p o : Int) (s : ByteArray) (t : Int) :
    (setE l p o s t ≠ 0 ∧ file_Set F l p o s t = some ([], setE l p o s t)) ∨
    (setE l p o s t = 0 ∧ (file_Set F l p o s t = some ([], 8) ∨ ∃ m, DoSpec l (setC l p o s) t m ∧ file_Set F l p o s t = some (m, 0))) := by
  rw [file_Set_eq]
  by_cases h : setE l p o s t = 0
  · right
    refine ⟨h, ?_⟩
    obtain ⟨hr, hk, hs, t0, t1, tl⟩ := setE_zero.1 h
    have gc := setC_good hr hk s
    rw [if_neg (by simpa using h)]
    rcases do_fold (fun c hc => ⟨gc.key c hc, gc.val c hc, gc.form c hc, gc.dif c hc⟩) gc.ord (show DoPre l (setC l p o s) t from ⟨hr, tl, t0, t1, setC_had⟩) with h4 | ⟨m, h4, h5⟩
    · left; rw [h4]
    · right; refine ⟨m, h5, ?_⟩; rw [h4]
  · left
    refine ⟨h, ?_⟩
    rw [if_pos h]
end Go.Proofs.Ytaodaihoglcinac
