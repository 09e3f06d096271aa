/- Plain Lean: the law RunSame. Its conditions: none. -/
import Derived.Test.YtiaoncjkfgebdaaWRunSameF
import Derived.Test.YtiaoncjkfgebdaaPRunL
namespace Go.Proofs.Ytiaoncjkfgebdaa
set_option linter.unusedVariables false
set_option linter.unusedSimpArgs false
theorem annalkeep_RunSame_true (F : Nat) [Big F] (l : List DElem) (a b : DKey) (v w : ByteArray) (t : Int) (_ : okAllW 56 okElem l) (_ : okKey a) (_ : okKey b) (_ : okStr v) (_ : v.size ≤ reachBytes) (_ : okStr w) (_ : w.size ≤ reachBytes) (ht : okInt .i64 t) : annalkeep_RunSame F l a b v w t = some true := by
  unfold annalkeep_RunSame
  have s1 : run_Cut F [⟨⟨0, 0, 1⟩, 1, 0, ByteArray.mk #[97]⟩] ⟨0, 0, 1⟩ 5 = some ([⟨⟨0, 0, 1⟩, 1, 5, ByteArray.mk #[97]⟩], 0) := by rw [run_Cut_eq]; rfl
  have s2 : idx [(⟨⟨0, 0, 1⟩, 1, 5, ByteArray.mk #[97]⟩ : DElem)] 0 = some ⟨⟨0, 0, 1⟩, 1, 5, ByteArray.mk #[97]⟩ := rfl
  have s3 : ((List.length [(⟨⟨0, 0, 1⟩, 1, 5, ByteArray.mk #[97]⟩ : DElem)] : Int) != 1) = false := rfl
  simp only [at1_eq, Option.bind_some, s1, s2, s3, bne_self_eq_false, cond_false]
  simp only [run_Put_eq, run_Cut_eq, Option.bind_some]
  by_cases hp : putE l a v t = 0
  · by_cases hq : putE l b w t = 0
    · obtain ⟨h1, h2, h3, h4, h5, h6, h7, h8⟩ := put_ok hp
      obtain ⟨_, g2, g3, g4, _, _, _, g8⟩ := put_ok hq
      have n1 := (putE_zero.1 hp).2.2.2
      have n2 := (putE_zero.1 hq).2.2.2
      rw [if_pos hp, if_pos hq, hp, hq]
      have m1 := last_put h1 h5 h3
      have m2 := last_put h1 h5 g3
      have t0 : t ≠ 0 := by omega
      -- in either order
      have part1 : (bif (!(a == b)) then bif (putE (putR l a v t) b w t == 0) then bif (putE (putR l b w t) a v t != 0) then some true else
          (slices_Equal_Elem F (if putE (putR l a v t) b w t = 0 then putR (putR l a v t) b w t else []) (if putE (putR l b w t) a v t = 0 then putR (putR l b w t) a v t else [])).bind fun r7 => some (!r7) else some false else some false : Option Bool) = some false := by
        by_cases hab : a = b
        · rw [beq_iff_eq.2 hab]; rfl
        · rw [beq_eq_false_iff_ne.2 hab, Bool.not_false, cond_true]
          by_cases hr : putE (putR l a v t) b w t = 0
          · have n3 := (putE_zero.1 hr).2.2.2
            have e := put_comm h1 hab h5 h3 g3 n1 n2 n3
            have hr' : putE (putR l b w t) a v t = 0 := putE_zero.2 ⟨g2, h3, by omega, by rw [e]; exact n3⟩
            rw [beq_iff_eq.2 hr, cond_true, bne0_false hr', cond_false, if_pos hr, if_pos hr', e, eqElem_self _ (by omega)]; rfl
          · rw [beq_eq_false_iff_ne.2 hr]; rfl
      have e2 := put_put (v := v) h1 t0 v (k := a)
      have hz : putE (putR l a v t) a v t = 0 := putE_zero.2 ⟨h2, h3, by omega, by rw [e2]; exact n1⟩
      have e3 := cut_put (k := a) (v := v) h1 t0
      have hc : cutE (putR l a v t) a t = 0 := cutE_zero.2 ⟨h2, h4, h6, h7, by omega, by rw [now_put_self h1 h5 h3 n1]; rfl⟩
      simp only [bne_self_eq_false, Bool.or_false, cond_false]
      rw [part1, Option.bind_some, cond_false, if_pos hz, hz, e2, eqElem_self _ (by omega), if_pos hc, hc, e3]
      simp only [bne_self_eq_false, cond_false, Option.bind_some, Bool.not_true, beq_self_eq_true, cond_true]
      cases hn : nowR l a with
      | none =>
        have hd : cutE l a t = 4 := by
          unfold cutE
          rw [if_neg (by simpa using chkR_run h1), if_neg (by simpa using h4), if_neg (by omega), hn]; rfl
        rw [hd, cut_none h1 hn, eqElem_self _ (by have := h1.len; omega)]; rfl
      | some e =>
        have hd : cutE l a t = 0 := cutE_zero.2 ⟨h1, h4, h6, h7, h5, by rw [hn]; rfl⟩
        rw [hd, if_pos rfl, eqElem_self _ (by have := (h1.cutR h5 h6 h7 a).len; omega)]; rfl
    · rw [if_pos hp, hp, bne0_true hq]; rfl
  · rw [bne0_true hp, if_neg hp]; simp
end Go.Proofs.Ytiaoncjkfgebdaa
