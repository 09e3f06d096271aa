/- Plain Lean: the law RunOnce. Its conditions: none. -/
import Derived.Test.YtiaoncjkfgebdaaWRunOnceF
import Derived.Test.YtiaoncjkfgebdaaPRunL
namespace Go.Proofs.Ytiaoncjkfgebdaa
set_option linter.unusedVariables false
set_option linter.unusedSimpArgs false
theorem cmpK_self (m : DKey) : cmpK m m = 0 := (cmp_cmpK.zero m m).2 rfl
section
variable {l : List DElem}
theorem lo_range (m a b : DKey) (t : Int) (h2 : cmpK m b ≤ 0) : (lo l m).filter (inR a b t) = (lo l m).filter (inR a m t) := by
  apply List.filter_congr
  intro e he
  have h := (mem_lo.1 he).2
  unfold inR
  rw [decide_eq_true (cmp_cmpK.trans _ _ _ (by omega) h2), decide_eq_true (show cmpK e.key m ≤ 0 by omega)]
theorem lo_none (m b : DKey) (t : Int) : (lo l m).filter (inR m b t) = [] := by
  rw [List.filter_eq_nil_iff]
  intro e he
  have h := (mem_lo.1 he).2
  have := cmp_cmpK.neg m e.key
  unfold inR
  rw [decide_eq_false (by omega)]; simp
theorem hist_range (m a b : DKey) (t : Int) (h1 : cmpK a m ≤ 0) (h2 : cmpK m b ≤ 0) : (hist l m).filter (inR a b t) = (hist l m).filter fun e => live e t := by
  apply List.filter_congr
  intro e he
  have h := (mem_hist.1 he).2
  unfold inR
  rw [h, decide_eq_true h1, decide_eq_true h2]; rfl
theorem hi_range (m a b : DKey) (t : Int) (h1 : cmpK a m ≤ 0) : (hi l m).filter (inR a b t) = (hi l m).filter (inR m b t) := by
  apply List.filter_congr
  intro e he
  have h := (mem_hi.1 he).2
  have := cmp_cmpK.neg m e.key
  unfold inR
  rw [decide_eq_true (cmp_cmpK.trans _ _ _ h1 (by omega)), decide_eq_true (show cmpK m e.key ≤ 0 by omega)]
theorem hi_none (m a : DKey) (t : Int) : (hi l m).filter (inR a m t) = [] := by
  rw [List.filter_eq_nil_iff]
  intro e he
  have h := (mem_hi.1 he).2
  unfold inR
  rw [decide_eq_false (show ¬ cmpK e.key m ≤ 0 by omega)]; simp
theorem range_split (hr : Run l) (a m b : DKey) (t : Int) (h1 : cmpK a m ≤ 0) (h2 : cmpK m b ≤ 0) : ∃ L X U, l.filter (inR a b t) = L ++ (X ++ U) ∧ l.filter (inR a m t) = L ++ X ∧ l.filter (inR m b t) = X ++ U ∧ l.filter (inR m m t) = X := by
  have h0 : cmpK m m ≤ 0 := by rw [cmpK_self]; omega
  have key : ∀ f : DElem → Bool, l.filter f = (lo l m).filter f ++ ((hist l m).filter f ++ (hi l m).filter f) := fun f => by
    conv => lhs; rw [split3 m hr.ord]
    rw [List.filter_append, List.filter_append]
  refine ⟨(lo l m).filter (inR a m t), (hist l m).filter (fun e => live e t), (hi l m).filter (inR m b t), ?_, ?_, ?_, ?_⟩
  · rw [key, lo_range m a b t h2, hist_range m a b t h1 h2, hi_range m a b t h1]
  · rw [key, hist_range m a m t h1 h0, hi_none, List.append_nil]
  · rw [key, lo_none, hist_range m m b t h0 h2, List.nil_append]
  · rw [key, lo_none, hist_range m m m t h0 h0, hi_none, List.append_nil, List.nil_append]
theorem range_at (hr : Run l) {a b : DKey} {t : Int} {e : DElem} (he : e ∈ l.filter (inR a b t)) : e ∈ l ∧ live e t = true := by
  rw [List.mem_filter] at he
  refine ⟨he.1, ?_⟩
  have := he.2
  unfold inR at this
  simp at this; simp [this]
theorem range_lt (hr : Run l) {a b : DKey} {t : Int} : (l.filter (inR a b t)).Pairwise fun x y => cmpK x.key y.key < 0 := by
  have h := hr.ord.filter (inR a b t)
  have hm : ∀ e ∈ l.filter (inR a b t), e ∈ l ∧ live e t = true := fun e he => range_at hr he
  generalize l.filter (inR a b t) = s at h hm
  refine List.Pairwise.imp_of_mem (fun {x y} hx hy hb => ?_) h
  have h1 := Bef.le hb
  have hne : cmpK x.key y.key ≠ 0 := fun h0 => by
    have hk := (cmp_cmpK.zero _ _).1 h0
    have := Run.live_one hr.ord (hm x hx).1 (hm y hy).1 hk (hm x hx).2 (hm y hy).2
    subst this
    exact Bef.irrefl hb
  omega
end
theorem annalkeep_RunOnce_true (F : Nat) [Big F] (l : List DElem) (a m b : DKey) (t : Int) (_ : okAllW 56 okElem l) (_ : okKey a) (_ : okKey m) (_ : okKey b) (_ : okInt .i64 t) : annalkeep_RunOnce F l a m b t = some true := by
  unfold annalkeep_RunOnce
  simp only [at1_eq, Option.bind_some, run_Range_eq, run_At_eq, key_Check_eq, key_Cmp_eq]
  have s1 : rangeE [⟨⟨0, 0, 1⟩, 1, 0, ByteArray.mk #[97]⟩, ⟨⟨0, 0, 2⟩, 1, 0, ByteArray.mk #[98]⟩, ⟨⟨0, 0, 3⟩, 1, 0, ByteArray.mk #[99]⟩] ⟨0, 0, 2⟩ ⟨0, 0, 3⟩ = 0 := by decide
  have s2 : (rangeR [⟨⟨0, 0, 1⟩, 1, 0, ByteArray.mk #[97]⟩, ⟨⟨0, 0, 2⟩, 1, 0, ByteArray.mk #[98]⟩, ⟨⟨0, 0, 3⟩, 1, 0, ByteArray.mk #[99]⟩] ⟨0, 0, 2⟩ ⟨0, 0, 3⟩ 1).length = 2 := by unfold rangeR; rw [if_pos s1]; decide
  rw [s1, s2]
  show (bif (rangeE l a b != 0) then _ else _) = _
  by_cases h : rangeE l a b = 0
  · obtain ⟨hr, ha, hb⟩ := rangeE_zero.1 h
    have hlen := hr.len
    have hA : rangeR l a b t = l.filter (inR a b t) := by unfold rangeR; rw [if_pos h]
    have hAl : (rangeR l a b t).length ≤ 400 := by rw [hA]; have := List.length_filter_le (inR a b t) l; omega
    rw [bne0_false h, cond_false]
    rw [loop_first (rangeR l a b t) (fun _ => (none : Option (Unit ⊕ Bool))) (Sum.inl ()) (by omega) rfl (fun j e hj => ?_) (by simp)]
    · have hnone : (rangeR l a b t).findSome? (fun _ => (none : Option (Unit ⊕ Bool))) = none := by simp
      rw [hnone, Option.getD_none, Option.bind_some]
      dsimp only
      by_cases h3 : chkK m = 0
      · rw [bne0_false h3, cond_false]
        by_cases h4 : 0 < cmpK a m
        · rw [decide_eq_true h4]; rfl
        · rw [decide_eq_false h4, cond_false, Option.bind_some]
          by_cases h5 : 0 < cmpK m b
          · rw [decide_eq_true h5]; rfl
          · rw [decide_eq_false h5, cond_false]
            obtain ⟨L, X, U, e1, e2, e3, e4⟩ := range_split hr a m b t (by omega) (by omega)
            have r1 : rangeE l a m = 0 := rangeE_zero.2 ⟨hr, ha, h3⟩
            have r2 : rangeE l m b = 0 := rangeE_zero.2 ⟨hr, h3, hb⟩
            have r3 : rangeE l m m = 0 := rangeE_zero.2 ⟨hr, h3, h3⟩
            have q1 : rangeR l a m t = L ++ X := by unfold rangeR; rw [if_pos r1, e2]
            have q2 : rangeR l m b t = X ++ U := by unfold rangeR; rw [if_pos r2, e3]
            have q3 : rangeR l m m t = X := by unfold rangeR; rw [if_pos r3, e4]
            rw [hA, e1] at hAl
            simp only [List.length_append] at hAl
            rw [r1, r2, r3, q1, q2, q3, hA, e1]
            have hmin : (if ((X ++ U).length : Int) < (X.length : Int) then ((X ++ U).length : Int) else (X.length : Int)) = (X.length : Int) := by rw [List.length_append]; split <;> omega
            rw [hmin, lslice_ok (by omega) (by rw [List.length_append]; omega) (by omega)]
            simp only [Option.bind_some, Int.toNat_natCast, List.take_length, List.drop_left]
            have w1 : IntKind.i64.wrap (0 + ((L ++ X).length : Int)) = ((L ++ X).length : Int) := by rw [w64] <;> rw [List.length_append] <;> omega
            rw [w1]
            have w2 : IntKind.i64.wrap (((L ++ X).length : Int) + (U.length : Int)) = ((L ++ X).length : Int) + (U.length : Int) := by rw [w64] <;> rw [List.length_append] <;> omega
            rw [w2]
            have w3 : IntKind.i64.wrap (((L ++ X).length : Int) + (U.length : Int) - 0) = ((L ++ X).length : Int) + (U.length : Int) := by rw [w64] <;> rw [List.length_append] <;> omega
            rw [w3, decide_eq_false (by omega), decide_eq_false (by omega)]
            simp only [cond_false]
            have z6 : ((bif decide (0 < ((L ++ X).length : Int) + (U.length : Int)) then (noughts 56 (((L ++ X).length : Int) + (U.length : Int))).bind fun u11 =>
                (lslice (List.replicate ((((L ++ X).length : Int) + (U.length : Int)).toNat) (⟨⟨0, 0, 0⟩, 0, 0, ByteArray.mk #[]⟩ : DElem)) 0 0).bind fun s2 => some s2 else some []) : Option (List DElem)) = some [] := by
              by_cases h6 : 0 < ((L ++ X).length : Int) + (U.length : Int)
              · rw [decide_eq_true h6, cond_true, noughts_ok h6 (by rw [List.length_append]; omega) (by rw [List.length_append]; omega), Option.bind_some, lslice_ok (by omega) (by omega) (by omega)]; rfl
              · rw [decide_eq_false h6]; rfl
            rw [z6]
            simp only [Option.bind_some, List.nil_append]
            rw [grow_ok (by simp; omega) (by simp; omega), Option.bind_some, grow_ok (by simp; omega) (by simp; omega), Option.bind_some, Option.bind_some, List.append_assoc, eqElem_self _ (by simp; omega)]; rfl
      · rw [bne0_true h3]; rfl
    · have hjl := (List.getElem?_eq_some_iff.1 hj).1
      have he := List.mem_of_getElem? hj
      rw [hA] at he
      obtain ⟨he1, he2⟩ := range_at hr he
      have hk := (chkE_ok (hr.ok e he1)).1
      have hat : atR l e.key t = some e := (atR_some hr.ord).2 ⟨he1, rfl, he2⟩
      have hE : atE l e.key t = 0 := by rw [atE_run hr hk, hat]; rfl
      have hV : atV l e.key t = e := by rw [atV_run hr hk, hat]; rfl
      rw [decide_eq_true (by omega), cond_true, idx_nat', hj, Option.bind_some, hE, hV, w64 (n := (j : Int) + 1) (by omega) (by omega)]
      simp only [bne_self_eq_false, cond_false, beq_self_eq_true, Bool.not_true]
      by_cases hj0 : 0 < j
      · obtain ⟨i, rfl⟩ : ∃ i, j = i + 1 := ⟨j - 1, by omega⟩
        rw [decide_eq_true (by omega), cond_true, show IntKind.i64.wrap (((i + 1 : Nat) : Int) - 1) = (i : Int) by rw [w64 (by omega) (by omega)]; omega, idx_nat']
        have hi := List.getElem?_eq_getElem (show i < (rangeR l a b t).length by omega)
        rw [hi, Option.bind_some]
        have hlt : cmpK (rangeR l a b t)[i].key e.key < 0 := by
          have hp := range_lt hr (a := a) (b := b) (t := t)
          rw [← hA, List.pairwise_iff_getElem] at hp
          have := hp i (i + 1) (by omega) hjl (by omega)
          rw [(List.getElem?_eq_some_iff.1 hj).2] at this
          exact this
        rw [decide_eq_false (by omega)]; rfl
      · rw [decide_eq_false (by omega)]; rfl
  · rw [bne0_true h, cond_true]
    unfold rangeR
    rw [if_neg h]; rfl
end Go.Proofs.Ytiaoncjkfgebdaa
