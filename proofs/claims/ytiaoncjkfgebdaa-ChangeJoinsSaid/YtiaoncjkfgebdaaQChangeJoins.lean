/- Plain Lean: the law ChangeJoins. Its conditions: none. -/
import Derived.Test.YtiaoncjkfgebdaaWChangeJoinsF
import Derived.Test.YtiaoncjkfgebdaaPChangeL
namespace Go.Proofs.Ytiaoncjkfgebdaa
set_option linter.unusedVariables false
set_option linter.unusedSimpArgs false
theorem then_back {a : List DChange} : ThenSpec a (backC a) [] := by
  refine ⟨List.Pairwise.nil, fun k => ?_, fun k => ?_⟩
  · rw [back_at]
    cases chAt a k with
    | none => trivial
    | some c => exact rfl
  · rw [back_at]
    cases chAt a k with
    | none => rfl
    | some c =>
      show none = dif c.key (fr c) (to (inv c))
      unfold dif
      rw [if_pos (show fr c = to (inv c) from rfl)]
theorem annalkeep_ChangeJoins_true (F : Nat) [Big F] (a b c : List DChange) (_ : okAllW 64 okChange a) (_ : okAllW 64 okChange b) (_ : okAllW 64 okChange c) : annalkeep_ChangeJoins F a b c = some true := by
  unfold annalkeep_ChangeJoins
  have s1 : change_Back F [⟨⟨0, 0, 0⟩, false, true, ByteArray.mk #[], ByteArray.mk #[98]⟩] = some ([⟨⟨0, 0, 0⟩, true, false, ByteArray.mk #[98], ByteArray.mk #[]⟩], 0) := by
    rw [change_Back_eq, chkC_zero.2 (good_one (by decide) (by decide) (by simp [FormC, e0]) (by decide))]; rfl
  simp only [Option.bind_some, s1]
  rw [eqChange_self _ (by simp)]
  simp only [Option.bind_some, bne_self_eq_false, cond_false, Bool.not_true]
  have part1 : ((change_Back F a).bind fun r3 =>
        bif (r3.2 == 0) then
          (change_Then F a r3.1).bind fun r4 =>
          bif ((r4.2 != 0) || ((r4.1.length : Int) != 0)) then
            some (Sum.inr false)
          else
            some (Sum.inl ())
        else
          some (Sum.inl ()) : Option (Unit ⊕ Bool)) = some (Sum.inl ()) := by
    rw [change_Back_eq, Option.bind_some]
    by_cases h : chkC a = 0
    · have ga := chkC_zero.1 h
      rw [h, if_pos rfl, then_is ga ga.back then_back (by simp)]; rfl
    · rw [show (chkC a == 0) = false by rw [beq_eq_false_iff_ne]; exact h]; rfl
  rw [part1, Option.bind_some]
  dsimp only
  have cases_then : ∀ x y : List DChange, ∃ r e, change_Then F x y = some (r, e) := fun x y => by
    rcases change_Then_eq (F := F) x y with ⟨_, d, _, h1⟩ | ⟨_, _, ⟨_, h1⟩ | ⟨q, _, h1⟩⟩
    · exact ⟨_, _, h1⟩
    · exact ⟨_, _, h1⟩
    · by_cases hq : 400 < q.length
      · rw [if_pos hq] at h1; exact ⟨_, _, h1⟩
      · rw [if_neg hq] at h1; exact ⟨_, _, h1⟩
  obtain ⟨x, e, hx⟩ := cases_then a b
  obtain ⟨y, f, hy⟩ := cases_then b c
  rw [hx, hy]
  simp only [Option.bind_some]
  by_cases he : e = 0
  · by_cases hf : f = 0
    · subst he; subst hf
      simp only [bne_self_eq_false, Bool.or_false, cond_false]
      obtain ⟨p, e, hp⟩ := cases_then x c
      obtain ⟨q, f, hq⟩ := cases_then a y
      rw [hp, hq]
      simp only [Option.bind_some]
      by_cases he : e = 0
      · by_cases hf : f = 0
        · subst he; subst hf
          obtain ⟨ga, gb, sx, _⟩ := then_ok hx
          obtain ⟨_, gc, sy, _⟩ := then_ok hy
          obtain ⟨_, _, sp, lp⟩ := then_ok hp
          obtain ⟨_, _, sq, _⟩ := then_ok hq
          have : p = q := ch_ext sp.ord sq.ord fun k => by
            rw [sp.at_, sq.at_, sx.at_, sy.at_]
            exact comp_assoc (ga.at_ k) (gb.at_ k) (gc.at_ k) (sx.meet k) (sy.meet k)
          subst this
          rw [eqChange_self _ (by omega)]; rfl
        · subst he
          rw [bne0_true hf]; rfl
      · rw [bne0_true he]; rfl
    · subst he
      rw [bne0_true hf]; rfl
  · rw [bne0_true he]; rfl
end Go.Proofs.Ytiaoncjkfgebdaa
