/- Plain Lean: the law ChangeUndone. Its conditions: none. -/
import Derived.Test.YtiaoncjkfgebdaaWChangeUndoneF
import Derived.Test.YtiaoncjkfgebdaaPDo
namespace Go.Proofs.Ytiaoncjkfgebdaa
set_option linter.unusedVariables false
set_option linter.unusedSimpArgs false
variable {F : Nat} [Big F]
theorem undone_do : ∃ m : List DElem, change_Do F [] [⟨⟨0, 0, 0⟩, false, true, ByteArray.mk #[], ByteArray.mk #[98]⟩] 1 = some (m, 0) ∧ m.length = 1 := by
  have gc : GoodC [⟨⟨0, 0, 0⟩, false, true, ByteArray.mk #[], ByteArray.mk #[98]⟩] := good_one (by decide) (by decide) (by simp [FormC, e0]) (by decide)
  refine ⟨[⟨⟨0, 0, 0⟩, 1, 0, ByteArray.mk #[98]⟩], ?_, rfl⟩
  rw [change_Do_is Run.nil gc (by decide) (by decide) (by decide) (fun c hc => by rw [List.mem_singleton] at hc; subst hc; rfl)]
  rfl
theorem annalkeep_ChangeUndone_true (F : Nat) [Big F] (l : List DElem) (c : List DChange) (t : Int) (_ : okAllW 56 okElem l) (_ : okAllW 64 okChange c) (ht : okInt .i64 t) : annalkeep_ChangeUndone F l c t = some true := by
  unfold annalkeep_ChangeUndone
  obtain ⟨m0, s1, s2⟩ := undone_do (F := F)
  rw [s1]
  simp only [Option.bind_some, s2]
  rw [show (((1 : Nat) : Int) != 1) = false from rfl]
  simp only [bne_self_eq_false, Bool.or_false, cond_false]
  rcases change_Do_eq (F := F) l c t with h1 | h1 | ⟨hr, gc, ⟨_, h2⟩ | ⟨t0, t1, tl, ⟨_, h2⟩ | ⟨had, _, h2 | ⟨m, hm, h2⟩⟩⟩⟩
  · rw [h1.2, Option.bind_some, bne0_true h1.1]; rfl
  · rw [h1.2.2, Option.bind_some, bne0_true h1.2.1]; rfl
  · rw [h2]; rfl
  · rw [h2]; rfl
  · rw [h2]; rfl
  · rw [h2]
    simp only [Option.bind_some, bne_self_eq_false, cond_false]
    rw [w64 (by omega) (by omega), w64 (by omega) (by omega)]
    obtain ⟨d, hd, ed⟩ := betw_ok (F := F) (chkR_run hm.run) (t - 1) t
    rw [ed, change_Back_eq, chkC_zero.2 gc]
    simp only [Option.bind_some, bne_self_eq_false, Bool.or_false, cond_false, if_true]
    have ht' : t ≤ (if (2147483647 : Int) < t + 1 then 2147483647 else t + 1) ∧ (if (2147483647 : Int) < t + 1 then 2147483647 else t + 1) ≤ 2147483647 := by split <;> omega
    generalize (if (2147483647 : Int) < t + 1 then 2147483647 else t + 1) = u at ht'
    have late : ∀ {u : Int}, t ≤ u → ∀ k, vAt m k u = match chAt c k with | none => nowV l k | some x => to x := fun {u} hu k => hm.late hr gc.ord tl t0 t1 hu k
    have nowm : ∀ k, nowV m k = match chAt c k with | none => nowV l k | some x => to x := fun k => by
      rw [← nowV_at hm.run (Int.le_trans hm.last t1) k]
      exact late t1 k
    have gb := gc.back
    have hadb : ∀ x ∈ backC c, nowV m x.key = fr x := fun x hx => by
      obtain ⟨y, hy, rfl⟩ := List.mem_map.1 hx
      have : chAt c y.key = some y := (chAt_some gc.ord).2 ⟨hy, rfl⟩
      show nowV m y.key = _
      rw [nowm, this]; rfl
    rcases change_Do_eq (F := F) m (backC c) u with h3 | h3 | ⟨_, _, ⟨h4, _⟩ | ⟨u0, u1, ul, ⟨⟨x, hx, hne⟩, _⟩ | ⟨_, _, h4 | ⟨n, hn, h4⟩⟩⟩⟩
    · exact absurd (chkR_run hm.run) h3.1
    · exact absurd (chkC_zero.2 gb) h3.2.1
    · have := hm.last; omega
    · exact absurd (hadb x hx) hne
    · rw [h4]; rfl
    · rw [h4]
      simp only [Option.bind_some, bne_self_eq_false, cond_false]
      have clen := gc.len
      rw [loop_first c (fun _ => (none : Option (Unit ⊕ Bool))) (Sum.inl ()) (by omega) rfl (fun k x hk => ?_) (by simp)]
      · have hnone : c.findSome? (fun _ => (none : Option (Unit ⊕ Bool))) = none := by simp
        rw [hnone, Option.getD_none, Option.bind_some]
        dsimp only
        rw [run_Last_eq, chkR_run hr]
        simp only [Option.bind_some, if_true]
        rw [show ((0 : Int) == 0) = true from rfl, cond_true]
        by_cases hlt : lastL l = t
        · rw [beq_iff_eq.2 hlt]; rfl
        · rw [beq_eq_false_iff_ne.2 hlt, cond_false]
          have hdc : d = c := by
            refine ch_ext hd.ord gc.ord fun k => ?_
            rw [hd.at_, hm.past (by omega) k, late (Int.le_refl _) k, nowV_at hr (by omega) k]
            cases hx : chAt c k with
            | none =>
              dsimp only
              unfold dif
              rw [if_pos rfl]
            | some x =>
              obtain ⟨h5, h6⟩ := (chAt_some gc.ord).1 hx
              have h7 := gc.dif x h5
              rw [differs_iff (gc.form x h5)] at h7
              have h8 := had x h5
              rw [h6] at h8
              dsimp only
              rw [h8]
              unfold dif
              rw [if_neg (by simpa using h7)]
              conv => rhs; rw [of_form (gc.form x h5), h6]
          rw [hdc, eqChange_self _ (by omega)]; rfl
      · have hkl := (List.getElem?_eq_some_iff.1 hk).1
        have hx := List.mem_of_getElem? hk
        rw [decide_eq_true (by omega), cond_true, idx_nat', hk, Option.bind_some, run_At_eq, run_At_eq, w64 (by omega) (by omega)]
        simp only [Option.bind_some]
        have hv : vAt l x.key 2147483647 = vAt n x.key 2147483647 := by
          have h5 : chAt c x.key = some x := (chAt_some gc.ord).2 ⟨hx, rfl⟩
          rw [nowV_at hr hr.last_le, had x hx, hn.late hm.run gb.ord ul u0 u1 u1 x.key, back_at, h5]
          rfl
        obtain ⟨e1, e2⟩ := at_val hr hn.run hv
        rw [e1, e2, seq_self]
        simp
end Go.Proofs.Ytiaoncjkfgebdaa
